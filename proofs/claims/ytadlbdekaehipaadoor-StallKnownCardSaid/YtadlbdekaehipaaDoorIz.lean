/- The roll of a letting: the program's Write. -/
import Derived.Test.YtadlbdekaehipaaDoorIt
import Derived.Test.YtadlbdekaehipaaDoorRt
namespace Go.Sim
open Go.Proofs Go.Shelf
set_option maxRecDepth 100000
set_option linter.unusedSimpArgs false
set_option linter.unusedVariables false
attribute [-simp] List.map_set List.map_take List.map_drop
theorem join_unspl:∀ws:List (List UInt8),Lib.join ws [32]=unspl 32 ws
  | []=>rfl
  | [p]=>by rw [Lib.join_one];rfl
  | p :: q :: r=>by
    have h:=join_unspl (q :: r)
    rw [unspl,←h]
    simp [Lib.join,List.intercalate,List.intersperse]
theorem wrow_u (ws:List (List UInt8)) (hne:ws≠[]) (hn:ws.length≤4) (hx:∀x∈ws,x.length≤24):ACalls Tryd.prog 29 [txts ws] [] (fun r o=>r=txtA (unspl 32 ws++[10])∧o=[]):=by
  have k:=wrow_ok (ws.map ba) (by simpa using hne) (by simpa using hn) (fun x h=>by obtain ⟨y,hy,rfl⟩:=List.mem_map.1 h;rw [ba_size];exact hx y hy)
  have e1:(ws.map ba).map strA=ws.map txtA:=by rw [List.map_map];rfl
  have e2:joinS (ws.map ba) spc++nlS=ba (unspl 32 ws++[10]):=by
    rw [←ba_of (joinS (ws.map ba) spc++nlS),joinS_jl]
    unfold jl
    rw [List.map_map,show (ByteArray.data · |>.toList)∘ba=id from funext fun x=>ba_toList x,List.map_id,join_unspl]
  rw [e1,e2] at k
  exact k
theorem heirN_len {h:Int}(h0:h≤9223372036854775807) (h1 : -9223372036854775808≤h):(heirN h).length≤22:=by
  unfold heirN
  split
  · have:=Lib.itoa_length_le h h1 h0;omega
  · simp
theorem wrow_q {ws:List (List UInt8)}{R:List UInt8}(h:unspl 32 ws++[10]=R) (hne:ws≠[]) (hn:ws.length≤4) (hx:∀x∈ws,x.length≤24):ACalls Tryd.prog 29 [txts ws] [] (fun r o=>r=txtA R∧o=[]):=h▸wrow_u ws hne hn hx
theorem int_len {n:Int}(h : -1≤n∧n≤1000000000):(Lib.itoa n).length≤21:=Lib.itoa_length_le n (by omega) (by omega)
theorem stRow_len {x:Stl}(h : -1≤x.least∧x.least≤1000000000) (k : -1≤x.heir∧x.heir≤1000000000):(stRow x).length≤64:=by
  have h1:=int_len h
  have h2:=heirN_len (h:=x.heir) (by omega) (by omega)
  have h3:(ruleN x.rule).length≤5:=by
    unfold ruleN
    split
    · decide
    · split
      · decide
      · split<;>decide
  simp only [stRow,unspl,List.length_append,List.length_cons,List.length_nil]
  omega
theorem numB2_len {a b:Int}(h : -1≤a∧a≤1000000000) (k : -1≤b∧b≤1000000000):(numB [a,b]).length≤44:=by
  have h1:=int_len h
  have h2:=int_len k
  simp only [numB,List.length_cons,List.length_append,List.length_nil]
  omega
theorem flatRows_snoc (l:List (List UInt8)) (r:List UInt8):flatRows (l++[r])=flatRows l++(r++[10]):=by simp [flatRows]
theorem flatRows_app (l m:List (List UInt8)):flatRows (l++m)=flatRows l++flatRows m:=by simp [flatRows]
theorem flatRows_len {l:List (List UInt8)}{k:Nat}(h:∀r∈l,r.length≤k):(flatRows l).length≤l.length * (k+1):=flat_len fun r hr=>by have:=h r hr;rw [List.length_append,List.length_singleton];omega
def wr2X (l:Lett):List UInt8:=if checkL l=0 then wr2 l else []
set_option maxHeartbeats 4000000 in
theorem Write_ok (ob:Lb) (l:Lett):ACalls Tryd.prog 14 [letV l] [(10900,tabO ob)] (fun r o=>r = .tup [txtA (wr2X l),I (checkL l)]∧o=[(10900,tabO ob)]):=by
 have F:=Fx.nil
 refine ent Tryd.func14 Tryd.ntmps14 Tryd.results14 ?_
 refine rK [1] ?_
 refine W.seqk fun K1 hK1=>?_
 refine W.seqR ?_
 refine oN 1 ?_
 refine oC [] ?_
 refine ct (Check_ok l) ?_
 refine oN 1 ?_
 refine oK [1,4] ?_
 refine rK [1,4,16] ?_
 refine it (fun hc1=>?_) (fun hc1=>?_)
 ·
  try simp at hc1
  replace F:=F.add hc1
  refine rK [2,3] ?_
  refine W.ret ?_
  refine tr ?_
  clear hK1 K1
  refine er false [] [(10900,10900)] ?_
  first
  | exact ⟨by rw [wr2X,if_pos hT0,hT0,qfin];rfl,rfl⟩
  | exact ⟨by rw [wr2X,if_neg hc1];rfl,rfl⟩
 ·
  try simp at hc1
  replace F:=F.add hc1
  refine W.skip ?_
  refine hK1 _ ?_
  clear hK1 K1
  have qv:=checkL_zero.1 hc1
  have hT0:checkL l=0:=hc1
  have ho8:l.stalls.length≤8:=qv.s8
  have ha8:l.apps.length≤8:=qv.a8
  have ho0:0<l.stalls.length:=qv.s0
  have qS:∀s∈l.stalls,(1≤s.rule∧s.rule≤3)∧(-1≤s.least∧s.least≤1000000000)∧(-1≤s.heir∧s.heir≤1000000000):=fun s hs=>by
    have:=qv.st s hs
    have h1:=this.rule
    have h2:=this.least
    have h3:=this.heir
    omega
  have qA:∀a∈l.apps,(-1≤a.years∧a.years≤1000000000)∧(-1≤a.token∧a.token≤1000000000)∧(∀n∈a.wishes, -1≤n∧n≤1000000000)∧(∀n∈a.bids, -1≤n∧n≤1000000000)∧a.bids.length=a.wishes.length∧a.wishes.length≤8:=fun a ha=>by
    have:=qv.ap a ha
    refine ⟨?_, ?_,fun n hn=>?_,fun n hn=>?_,this.len,Nat.le_trans this.wlen ho8⟩
    · have:=this.years;omega
    · have:=this.token;omega
    · have:=this.wish n hn;omega
    · have:=this.bid n hn;omega
  obtain ⟨F1,qF1⟩:∃F,F=flatRows (l.stalls.map stRow):=⟨_,rfl⟩
  obtain ⟨A1,qA1⟩:∃A:Nat→List UInt8,A=fun i=>flatRows ((l.stalls.take i).map stRow):=⟨_,rfl⟩
  have hA10:A1 0=[]:=by rw [qA1];rfl
  have hA1n:A1 l.stalls.length=F1:=by rw [qA1,qF1];show flatRows ((l.stalls.take l.stalls.length).map stRow)=_;rw [List.take_length]
  have ql1:∀i,(A1 i).length≤600:=fun i=>by
    rw [qA1]
    have h1:=flatRows_len (l:=(l.stalls.take i).map stRow) (k:=64) fun r hr=>by
      obtain ⟨s,hs,rfl⟩:=List.mem_map.1 hr
      have:=qS s (List.mem_of_mem_take hs)
      exact stRow_len this.2.1 this.2.2
    have h2:((l.stalls.take i).map stRow).length≤8:=by rw [List.length_map,List.length_take];omega
    show (flatRows ((l.stalls.take i).map stRow)).length≤_
    omega
  have qlF1:F1.length≤600:=by rw [←hA1n];exact ql1 _
  obtain ⟨B1,qB1⟩:∃B:Nat→List UInt8,B=fun j=>F1++flatRows ((l.apps.take j).flatMap apRows):=⟨_,rfl⟩
  have hB10:B1 0=F1:=by rw [qB1];simp [flatRows]
  have qlR:∀a∈l.apps,∀r∈apRows a,r.length≤60:=fun a ha r hr=>by
    have q:=qA a ha
    rcases List.mem_cons.1 hr with rfl | hr
    · have:=numB2_len q.1 q.2.1
      simp only [apRow,List.length_append,List.length_cons,List.length_nil]
      omega
    · obtain ⟨p,hp,rfl⟩:=List.mem_map.1 hr
      obtain ⟨h1,h2⟩:=List.of_mem_zip (a:=p.1) (b:=p.2) hp
      have:=numB2_len (q.2.2.1 _ h1) (q.2.2.2.1 _ h2)
      simp only [wsRow,List.length_append,List.length_cons,List.length_nil]
      omega
  have qlA:∀a∈l.apps,(flatRows (apRows a)).length≤549:=fun a ha=>by
    have h1:=flatRows_len (qlR a ha)
    have h2:(apRows a).length≤9:=by
      have q:=qA a ha
      simp only [apRows,List.length_cons,List.length_map,List.length_zip]
      omega
    omega
  have ql2:∀j,(B1 j).length≤5000:=fun j=>by
    rw [qB1]
    have h1:(flatRows ((l.apps.take j).flatMap apRows)).length≤(l.apps.take j).length * 549:=by
      have e:flatRows ((l.apps.take j).flatMap apRows)=(l.apps.take j).flatMap fun a=>flatRows (apRows a):=by
        unfold flatRows;rw [List.flatMap_assoc]
      rw [e]
      exact flat_len fun a ha=>qlA a (List.mem_of_mem_take ha)
    have h2:(l.apps.take j).length≤8:=by rw [List.length_take];omega
    show (F1++flatRows ((l.apps.take j).flatMap apRows)).length≤_
    rw [List.length_append]
    omega
  replace F:=F.add hT0 |>.add ho8 |>.add ha8 |>.add ho0 |>.add hA10 |>.add hA1n |>.add hB10
  refine W.seqR ?_
  refine WOps.allocB hΓ 40 9001 rfl rfl rfl rfl rfl (by rfl) (by simp [hc1,hT0,ho8,ha8,ho0,hA10,hA1n,hB10];all_goals rfl) ?_
  refine oK [1,5] ?_
  refine W.seqk fun K2 hK2=>?_
  refine rK [1,5,19,20,21] ?_
  refine W.block ?_
  refine W.weaken (Le.lib2 ob 9500 rfl (by first | rfl | simp) (by simp;rfl)) ?_
  refine lpa (α:=Value×Nat) [1,5,19,20] [7,30,37,39,40,41] [40,9001] (fun x=>[(21,I x.2)]) (fun x=>[(40,.cus (boxC 70 (decide (0<x.2)) x.1)),(9001,.cus (bufC 5 x.1 (A1 x.2)))]) (fun x=>x.2≤l.stalls.length) (fun x=>l.stalls.length-x.2) (.slice none 0 0,0) v0 ?_
  ·
   intro ⟨y,i⟩ hI0
   simp only [List.cons_append,List.nil_append]
   try dsimp only at hI0
   replace F:=F.add hI0
   refine rK [1,5,19,20,21,22] ?_
   refine W.seqk fun K3 hK3=>?_
   refine it (fun hc2=>?_) (fun hc2=>?_)
   ·
    try simp at hc2
    replace F:=F.add hc2
    refine W.skip ?_
    refine hK3 _ ?_
    clear hK3 K3
    refine W.seqk fun K4 hK4=>?_
    refine W.block ?_
    have hil:i<l.stalls.length:=by omega
    obtain ⟨sr,sl,sh,qs⟩:∃a b c,l.stalls[i]'hil=(⟨a,b,c⟩:Stl):=⟨_,_,_,rfl⟩
    have hs:=qs
    have hso:l.stalls[i]?=some ⟨sr,sl,sh⟩:=by rw [List.getElem?_eq_getElem hil,qs]
    have qok:=qS _ (List.getElem_mem hil)
    rw [qs] at qok
    have qr:1≤sr∧sr≤3:=qok.1
    have ql : -1≤sl∧sl≤1000000000:=qok.2.1
    have qh : -1≤sh∧sh≤1000000000:=qok.2.2
    have qlw:=ql1 i
    obtain ⟨R,qR⟩:∃R,R=stRow ⟨sr,sl,sh⟩ ++ [10]:=⟨_,rfl⟩
    have hAs:A1 (i+1)=A1 i++R:=by
      rw [qA1,qR]
      show flatRows ((l.stalls.take (i+1)).map stRow)=flatRows ((l.stalls.take i).map stRow)++_
      rw [List.take_succ_eq_append_getElem hil,qs,List.map_append,List.map_singleton,flatRows_snoc]
    have qRl:R.length≤65:=by
      rw [qR,List.length_append,List.length_singleton]
      have:=stRow_len (x:=⟨sr,sl,sh⟩) ql qh
      omega
    have qil:=int_len ql
    have qih:=int_len qh
    replace F:=F.add hil |>.add hs |>.add hso |>.add hAs
    refine rK [1,5,7,19,20,21] ?_
    refine rK [1,5,7,8,19,20,21] ?_
    refine W.seqk fun K5 hK5=>?_
    by_cases hh:0≤sh
    ·
     replace F:=F.add hh
     refine rK [1,5,7,8,19,20,21,27] ?_
     refine cT ?_
     refine W.region ?_
     refine oN 2 ?_
     refine oC [(10900,10900)] ?_
     refine ct (Itoa_ok ob sh (by omega) (by omega)) ?_
     refine oN 1 ?_
     refine WOps.endK ?_
     refine hK5 _ ?_
     clear hK5 K5
     by_cases hr1:sr=1
     ·
      replace F:=F.add hr1
      subst hr1
      have hr1:True:=trivial
      replace F:=F.add hr1
      refine wDe 8 [(6,[9500])] [[],[0],[0,1],[1,0,2],[],[4],[4,5],[],[7,5,4,6,2,0,1,3],[3,1,0,2,6,4,5,7,8],[8,7,5,4,6,2,0,1,3,9]] ?_
      refine dB [([35,36,37,38],[],[9500]),([35,36,37,38],[true],[9500]),([35,36,37,38],[true,true],[9500]),([35,36,37,38],[true,true,true],[9500]),([31,32,33,34,38],[false,false,false,false],[]),([31,32,33,34,38],[false,false,false,false,true],[])] 2 6 ?_
      refine dC [31,32,33,34,38] [false,false,false,false,true,true] [] [(10900,9500)] ?_
      refine cd (Itoa_ok ob sl (by omega) (by omega)) ?_
      refine dB [([31,32,33,34,35,36,37],[false,false,false,false,false,false,false],[9500])] 0 8 ?_
      refine dD ?_
      refine oN 1 ?_
      refine oC [] ?_
      refine ct (wrow_q (R:=R) (ws:=[stlL,lotL,Lib.itoa sl,Lib.itoa sh]) (by rw [qR];simp [stRow,ruleN,heirN,hh]) (by simp) (by simp) (by simp;omega)) ?_
      refine WOps.callM rfl rfl rfl rfl [(10000,40),(15000,9001)] rfl [9001] rfl (by decide) (by simp [hc1,hT0,ho8,ha8,ho0,hA10,hA1n,hB10,hI0,hc2,hil,hs,hso,hAs,hh,hr1,hr1];first | rfl | exact ⟨rfl,rfl⟩) (by simp [hc1,hT0,ho8,ha8,ho0,hA10,hA1n,hB10,hI0,hc2,hil,hs,hso,hAs,hh,hr1,hr1];rfl) ?_
      refine CallT.mkE (WriteString_ok (decide (0<i)) y (A1 i) (ba R) (by rw [ba_size];omega)) (fun z41 hz41=>⟨(by simp [hc1,hT0,ho8,ha8,ho0,hA10,hA1n,hB10,hI0,hc2,hil,hs,hso,hAs,hh,hr1,hr1]), ?_⟩)
      refine ⟨(by simp [hc1,hT0,ho8,ha8,ho0,hA10,hA1n,hB10,hI0,hc2,hil,hs,hso,hAs,hh,hr1,hr1]), ?_⟩
      refine WOps.norm (by simp [hc1,hT0,ho8,ha8,ho0,hA10,hA1n,hB10,hI0,hc2,hil,hs,hso,hAs,hh,hr1,hr1];rfl) ?_
      refine WOps.endK ?_
      refine hK4 _ ?_
      clear hK4 K4
      refine rEw ?_
      refine ⟨(z41,i+1),lf0,v0,v0⟩
     ·
      replace F:=F.add hr1
      by_cases hr2:sr=2
      ·
       replace F:=F.add hr2
       subst hr2
       have hr2:True:=trivial
       replace F:=F.add hr2
       refine wDe 8 [(6,[9500])] [[],[0],[0,1],[1,0,2],[],[4],[4,5],[],[7,5,4,6,2,0,1,3],[3,1,0,2,6,4,5,7,8],[8,7,5,4,6,2,0,1,3,9]] ?_
       refine dB [([35,36,37,38],[],[9500]),([35,36,37,38],[true],[9500]),([35,36,37,38],[true,true],[9500]),([35,36,37,38],[true,true,true],[9500]),([31,32,33,34,38],[false,false,false,false],[]),([31,32,33,34,38],[false,false,false,false,true],[])] 2 6 ?_
       refine dC [31,32,33,34,38] [false,false,false,false,true,true] [] [(10900,9500)] ?_
       refine cd (Itoa_ok ob sl (by omega) (by omega)) ?_
       refine dB [([31,32,33,34,35,36,37],[false,false,false,false,false,false,false],[9500])] 0 8 ?_
       refine dD ?_
       refine oN 1 ?_
       refine oC [] ?_
       refine ct (wrow_q (R:=R) (ws:=[stlL,yrsL,Lib.itoa sl,Lib.itoa sh]) (by rw [qR];simp [stRow,ruleN,heirN,hh]) (by simp) (by simp) (by simp;omega)) ?_
       refine WOps.callM rfl rfl rfl rfl [(10000,40),(15000,9001)] rfl [9001] rfl (by decide) (by simp [hc1,hT0,ho8,ha8,ho0,hA10,hA1n,hB10,hI0,hc2,hil,hs,hso,hAs,hh,hr1,hr2,hr2];first | rfl | exact ⟨rfl,rfl⟩) (by simp [hc1,hT0,ho8,ha8,ho0,hA10,hA1n,hB10,hI0,hc2,hil,hs,hso,hAs,hh,hr1,hr2,hr2];rfl) ?_
       refine CallT.mkE (WriteString_ok (decide (0<i)) y (A1 i) (ba R) (by rw [ba_size];omega)) (fun z41 hz41=>⟨(by simp [hc1,hT0,ho8,ha8,ho0,hA10,hA1n,hB10,hI0,hc2,hil,hs,hso,hAs,hh,hr1,hr2,hr2]), ?_⟩)
       refine ⟨(by simp [hc1,hT0,ho8,ha8,ho0,hA10,hA1n,hB10,hI0,hc2,hil,hs,hso,hAs,hh,hr1,hr2,hr2]), ?_⟩
       refine WOps.norm (by simp [hc1,hT0,ho8,ha8,ho0,hA10,hA1n,hB10,hI0,hc2,hil,hs,hso,hAs,hh,hr1,hr2,hr2];rfl) ?_
       refine WOps.endK ?_
       refine hK4 _ ?_
       clear hK4 K4
       refine rEw ?_
       refine ⟨(z41,i+1),lf0,v0,v0⟩
      ·
       replace F:=F.add hr2
       have hr3:sr=3:=by omega
       subst hr3
       have hr3:True:=trivial
       replace F:=F.add hr3 |>.add hr3
       refine wDe 8 [(6,[9500])] [[],[0],[0,1],[1,0,2],[],[4],[4,5],[],[7,5,4,6,2,0,1,3],[3,1,0,2,6,4,5,7,8],[8,7,5,4,6,2,0,1,3,9]] ?_
       refine dB [([35,36,37,38],[],[9500]),([35,36,37,38],[true],[9500]),([35,36,37,38],[true,true],[9500]),([35,36,37,38],[true,true,true],[9500]),([31,32,33,34,38],[false,false,false,false],[]),([31,32,33,34,38],[false,false,false,false,true],[])] 2 6 ?_
       refine dC [31,32,33,34,38] [false,false,false,false,true,true] [] [(10900,9500)] ?_
       refine cd (Itoa_ok ob sl (by omega) (by omega)) ?_
       refine dB [([31,32,33,34,35,36,37],[false,false,false,false,false,false,false],[9500])] 0 8 ?_
       refine dD ?_
       refine oN 1 ?_
       refine oC [] ?_
       refine ct (wrow_q (R:=R) (ws:=[stlL,bidL,Lib.itoa sl,Lib.itoa sh]) (by rw [qR];simp [stRow,ruleN,heirN,hh]) (by simp) (by simp) (by simp;omega)) ?_
       refine WOps.callM rfl rfl rfl rfl [(10000,40),(15000,9001)] rfl [9001] rfl (by decide) (by simp [hc1,hT0,ho8,ha8,ho0,hA10,hA1n,hB10,hI0,hc2,hil,hs,hso,hAs,hh,hr1,hr2,hr3,hr3];first | rfl | exact ⟨rfl,rfl⟩) (by simp [hc1,hT0,ho8,ha8,ho0,hA10,hA1n,hB10,hI0,hc2,hil,hs,hso,hAs,hh,hr1,hr2,hr3,hr3];rfl) ?_
       refine CallT.mkE (WriteString_ok (decide (0<i)) y (A1 i) (ba R) (by rw [ba_size];omega)) (fun z41 hz41=>⟨(by simp [hc1,hT0,ho8,ha8,ho0,hA10,hA1n,hB10,hI0,hc2,hil,hs,hso,hAs,hh,hr1,hr2,hr3,hr3]), ?_⟩)
       refine ⟨(by simp [hc1,hT0,ho8,ha8,ho0,hA10,hA1n,hB10,hI0,hc2,hil,hs,hso,hAs,hh,hr1,hr2,hr3,hr3]), ?_⟩
       refine WOps.norm (by simp [hc1,hT0,ho8,ha8,ho0,hA10,hA1n,hB10,hI0,hc2,hil,hs,hso,hAs,hh,hr1,hr2,hr3,hr3];rfl) ?_
       refine WOps.endK ?_
       refine hK4 _ ?_
       clear hK4 K4
       refine rEw ?_
       refine ⟨(z41,i+1),lf0,v0,v0⟩
    ·
     replace F:=F.add hh
     refine rK [1,5,7,8,19,20,21,27] ?_
     refine cF ?_
     refine W.skip ?_
     refine hK5 _ ?_
     clear hK5 K5
     by_cases hr1:sr=1
     ·
      replace F:=F.add hr1
      subst hr1
      have hr1:True:=trivial
      replace F:=F.add hr1
      refine wDe 8 [(6,[9500])] [[],[0],[0,1],[1,0,2],[],[4],[4,5],[],[7,5,4,6,2,0,1,3],[3,1,0,2,6,4,5,7,8],[8,7,5,4,6,2,0,1,3,9]] ?_
      refine dB [([35,36,37,38],[],[9500]),([35,36,37,38],[true],[9500]),([35,36,37,38],[true,true],[9500]),([35,36,37,38],[true,true,true],[9500]),([31,32,33,34,38],[false,false,false,false],[]),([31,32,33,34,38],[false,false,false,false,true],[])] 2 6 ?_
      refine dC [31,32,33,34,38] [false,false,false,false,true,true] [] [(10900,9500)] ?_
      refine cd (Itoa_ok ob sl (by omega) (by omega)) ?_
      refine dB [([31,32,33,34,35,36,37],[false,false,false,false,false,false,false],[9500])] 0 8 ?_
      refine dD ?_
      refine oN 1 ?_
      refine oC [] ?_
      refine ct (wrow_q (R:=R) (ws:=[stlL,lotL,Lib.itoa sl,[45]]) (by rw [qR];simp [stRow,ruleN,heirN,hh]) (by simp) (by simp) (by simp;omega)) ?_
      refine WOps.callM rfl rfl rfl rfl [(10000,40),(15000,9001)] rfl [9001] rfl (by decide) (by simp [hc1,hT0,ho8,ha8,ho0,hA10,hA1n,hB10,hI0,hc2,hil,hs,hso,hAs,hh,hr1,hr1];first | rfl | exact ⟨rfl,rfl⟩) (by simp [hc1,hT0,ho8,ha8,ho0,hA10,hA1n,hB10,hI0,hc2,hil,hs,hso,hAs,hh,hr1,hr1];rfl) ?_
      refine CallT.mkE (WriteString_ok (decide (0<i)) y (A1 i) (ba R) (by rw [ba_size];omega)) (fun z41 hz41=>⟨(by simp [hc1,hT0,ho8,ha8,ho0,hA10,hA1n,hB10,hI0,hc2,hil,hs,hso,hAs,hh,hr1,hr1]), ?_⟩)
      refine ⟨(by simp [hc1,hT0,ho8,ha8,ho0,hA10,hA1n,hB10,hI0,hc2,hil,hs,hso,hAs,hh,hr1,hr1]), ?_⟩
      refine WOps.norm (by simp [hc1,hT0,ho8,ha8,ho0,hA10,hA1n,hB10,hI0,hc2,hil,hs,hso,hAs,hh,hr1,hr1];rfl) ?_
      refine WOps.endK ?_
      refine hK4 _ ?_
      clear hK4 K4
      refine rEw ?_
      refine ⟨(z41,i+1),lf0,v0,v0⟩
     ·
      replace F:=F.add hr1
      by_cases hr2:sr=2
      ·
       replace F:=F.add hr2
       subst hr2
       have hr2:True:=trivial
       replace F:=F.add hr2
       refine wDe 8 [(6,[9500])] [[],[0],[0,1],[1,0,2],[],[4],[4,5],[],[7,5,4,6,2,0,1,3],[3,1,0,2,6,4,5,7,8],[8,7,5,4,6,2,0,1,3,9]] ?_
       refine dB [([35,36,37,38],[],[9500]),([35,36,37,38],[true],[9500]),([35,36,37,38],[true,true],[9500]),([35,36,37,38],[true,true,true],[9500]),([31,32,33,34,38],[false,false,false,false],[]),([31,32,33,34,38],[false,false,false,false,true],[])] 2 6 ?_
       refine dC [31,32,33,34,38] [false,false,false,false,true,true] [] [(10900,9500)] ?_
       refine cd (Itoa_ok ob sl (by omega) (by omega)) ?_
       refine dB [([31,32,33,34,35,36,37],[false,false,false,false,false,false,false],[9500])] 0 8 ?_
       refine dD ?_
       refine oN 1 ?_
       refine oC [] ?_
       refine ct (wrow_q (R:=R) (ws:=[stlL,yrsL,Lib.itoa sl,[45]]) (by rw [qR];simp [stRow,ruleN,heirN,hh]) (by simp) (by simp) (by simp;omega)) ?_
       refine WOps.callM rfl rfl rfl rfl [(10000,40),(15000,9001)] rfl [9001] rfl (by decide) (by simp [hc1,hT0,ho8,ha8,ho0,hA10,hA1n,hB10,hI0,hc2,hil,hs,hso,hAs,hh,hr1,hr2,hr2];first | rfl | exact ⟨rfl,rfl⟩) (by simp [hc1,hT0,ho8,ha8,ho0,hA10,hA1n,hB10,hI0,hc2,hil,hs,hso,hAs,hh,hr1,hr2,hr2];rfl) ?_
       refine CallT.mkE (WriteString_ok (decide (0<i)) y (A1 i) (ba R) (by rw [ba_size];omega)) (fun z41 hz41=>⟨(by simp [hc1,hT0,ho8,ha8,ho0,hA10,hA1n,hB10,hI0,hc2,hil,hs,hso,hAs,hh,hr1,hr2,hr2]), ?_⟩)
       refine ⟨(by simp [hc1,hT0,ho8,ha8,ho0,hA10,hA1n,hB10,hI0,hc2,hil,hs,hso,hAs,hh,hr1,hr2,hr2]), ?_⟩
       refine WOps.norm (by simp [hc1,hT0,ho8,ha8,ho0,hA10,hA1n,hB10,hI0,hc2,hil,hs,hso,hAs,hh,hr1,hr2,hr2];rfl) ?_
       refine WOps.endK ?_
       refine hK4 _ ?_
       clear hK4 K4
       refine rEw ?_
       refine ⟨(z41,i+1),lf0,v0,v0⟩
      ·
       replace F:=F.add hr2
       have hr3:sr=3:=by omega
       subst hr3
       have hr3:True:=trivial
       replace F:=F.add hr3 |>.add hr3
       refine wDe 8 [(6,[9500])] [[],[0],[0,1],[1,0,2],[],[4],[4,5],[],[7,5,4,6,2,0,1,3],[3,1,0,2,6,4,5,7,8],[8,7,5,4,6,2,0,1,3,9]] ?_
       refine dB [([35,36,37,38],[],[9500]),([35,36,37,38],[true],[9500]),([35,36,37,38],[true,true],[9500]),([35,36,37,38],[true,true,true],[9500]),([31,32,33,34,38],[false,false,false,false],[]),([31,32,33,34,38],[false,false,false,false,true],[])] 2 6 ?_
       refine dC [31,32,33,34,38] [false,false,false,false,true,true] [] [(10900,9500)] ?_
       refine cd (Itoa_ok ob sl (by omega) (by omega)) ?_
       refine dB [([31,32,33,34,35,36,37],[false,false,false,false,false,false,false],[9500])] 0 8 ?_
       refine dD ?_
       refine oN 1 ?_
       refine oC [] ?_
       refine ct (wrow_q (R:=R) (ws:=[stlL,bidL,Lib.itoa sl,[45]]) (by rw [qR];simp [stRow,ruleN,heirN,hh]) (by simp) (by simp) (by simp;omega)) ?_
       refine WOps.callM rfl rfl rfl rfl [(10000,40),(15000,9001)] rfl [9001] rfl (by decide) (by simp [hc1,hT0,ho8,ha8,ho0,hA10,hA1n,hB10,hI0,hc2,hil,hs,hso,hAs,hh,hr1,hr2,hr3,hr3];first | rfl | exact ⟨rfl,rfl⟩) (by simp [hc1,hT0,ho8,ha8,ho0,hA10,hA1n,hB10,hI0,hc2,hil,hs,hso,hAs,hh,hr1,hr2,hr3,hr3];rfl) ?_
       refine CallT.mkE (WriteString_ok (decide (0<i)) y (A1 i) (ba R) (by rw [ba_size];omega)) (fun z41 hz41=>⟨(by simp [hc1,hT0,ho8,ha8,ho0,hA10,hA1n,hB10,hI0,hc2,hil,hs,hso,hAs,hh,hr1,hr2,hr3,hr3]), ?_⟩)
       refine ⟨(by simp [hc1,hT0,ho8,ha8,ho0,hA10,hA1n,hB10,hI0,hc2,hil,hs,hso,hAs,hh,hr1,hr2,hr3,hr3]), ?_⟩
       refine WOps.norm (by simp [hc1,hT0,ho8,ha8,ho0,hA10,hA1n,hB10,hI0,hc2,hil,hs,hso,hAs,hh,hr1,hr2,hr3,hr3];rfl) ?_
       refine WOps.endK ?_
       refine hK4 _ ?_
       clear hK4 K4
       refine rEw ?_
       refine ⟨(z41,i+1),lf0,v0,v0⟩
   ·
    try simp at hc2
    replace F:=F.add hc2
    refine W.exit ?_
    refine hK2 _ ?_
    clear hK3 K3 hK2 K2
    refine W.seqk fun K6 hK6=>?_
    have hin:i=l.stalls.length:=by omega
    replace F:=F.add hin
    refine rK [1,5,44,45,46] ?_
    refine W.block ?_
    refine lpa (α:=Value×Nat) [1,5,44,45] [10,52,55,56,57,58,61,68,74,75,76,77] [40,9001] (fun x=>[(46,I x.2)]) (fun x=>[(40,.cus (boxC 70 true x.1)),(9001,.cus (bufC 5 x.1 (B1 x.2)))]) (fun x=>x.2≤l.apps.length) (fun x=>l.apps.length-x.2) (y,0) v0 ?_
    ·
     intro ⟨y2,j⟩ hI1
     simp only [List.cons_append,List.nil_append]
     try dsimp only at hI1
     replace F:=F.add hI1
     refine rK [1,5,44,45,46,47] ?_
     refine W.seqk fun K7 hK7=>?_
     refine it (fun hc5=>?_) (fun hc5=>?_)
     ·
      try simp at hc5
      replace F:=F.add hc5
      refine W.skip ?_
      refine hK7 _ ?_
      clear hK7 K7
      refine W.seqk fun K8 hK8=>?_
      refine W.block ?_
      have hjl:j<l.apps.length:=by omega
      obtain ⟨yr,tk,ws,bd,qa⟩:∃a b c d,l.apps[j]'hjl=(⟨a,b,c,d⟩:App):=⟨_,_,_,_,rfl⟩
      have ha:=qa
      have hao:l.apps[j]?=some ⟨yr,tk,ws,bd⟩:=by rw [List.getElem?_eq_getElem hjl,qa]
      have qam:=List.getElem_mem hjl
      rw [qa] at qam
      have qok:=qA _ qam
      have qy : -1≤yr∧yr≤1000000000:=qok.1
      have qt : -1≤tk∧tk≤1000000000:=qok.2.1
      have hbd:bd.length=ws.length:=qok.2.2.2.2.1
      have hws:ws.length≤8:=qok.2.2.2.2.2
      have qlv:=ql2 j
      obtain ⟨R,qR⟩:∃R,R=apRow ⟨yr,tk,ws,bd⟩ ++ [10]:=⟨_,rfl⟩
      obtain ⟨C0,qC0⟩:∃C,C=B1 j++R:=⟨_,rfl⟩
      have hC0:=qC0.symm
      obtain ⟨C1,qC1⟩:∃C:Nat→List UInt8,C=fun k=>C0++flatRows (((ws.zip bd).take k).map wsRow):=⟨_,rfl⟩
      have hC10:C1 0=C0:=by rw [qC1];simp [flatRows]
      have qzl:(ws.zip bd).length=ws.length:=by rw [List.length_zip];omega
      have qCs:B1 (j+1)=C1 ws.length:=by
        rw [qC1,qC0,qB1,qR]
        show F1++flatRows ((l.apps.take (j+1)).flatMap apRows)=F1++flatRows ((l.apps.take j).flatMap apRows)++_++flatRows (((ws.zip bd).take ws.length).map wsRow)
        rw [List.take_succ_eq_append_getElem hjl,qa,List.flatMap_append,flatRows_app,←qzl,List.take_length]
        simp [apRows,flatRows]
      have qlC:C0.length≤5100:=by
        have:=numB2_len qy qt
        rw [qC0,qR]
        simp only [apRow,List.length_append,List.length_cons,List.length_nil]
        omega
      have qRl:R.length≤65:=by
        have:=numB2_len qy qt
        rw [qR]
        simp only [apRow,List.length_append,List.length_cons,List.length_nil]
        omega
      have ql3:∀k,(C1 k).length≤6000:=fun k=>by
        rw [qC1]
        have h1:=flatRows_len (l:=((ws.zip bd).take k).map wsRow) (k:=60) fun r hr=>qlR _ qam r (List.mem_cons_of_mem _ (by obtain ⟨p,hp,rfl⟩:=List.mem_map.1 hr;exact List.mem_map.2 ⟨p,List.mem_of_mem_take hp,rfl⟩))
        have h2:(((ws.zip bd).take k).map wsRow).length≤8:=by rw [List.length_map,List.length_take];omega
        show (C0++flatRows (((ws.zip bd).take k).map wsRow)).length≤_
        rw [List.length_append]
        omega
      have qiy:=int_len qy
      have qit:=int_len qt
      replace F:=F.add hjl |>.add ha |>.add hao |>.add hbd |>.add hws |>.add hC0 |>.add hC10
      refine rK [1,5,10,44,45,46] ?_
      refine wD 5 [(2,[9500])] [[],[0],[0,1],[],[3],[1,0,2,3,4],[4,3,5,1,0,2],[2,0,1,5,3,4,6],[6,4,3,5,1,0,2,7]] ?_
      refine dB [([53,54],[],[]),([53,54],[true],[])] 3 2 ?_
      refine dC [53,54] [true,true] [] [(10900,9500)] ?_
      refine cd (Itoa_ok ob yr (by omega) (by omega)) ?_
      refine dB [([50,51,52],[false,false,false],[9500]),([50,51,52],[false,false,false,true],[9500])] 0 5 ?_
      refine dD ?_
      refine oC [(10900,9500)] ?_
      refine ct (Itoa_ok ob tk (by omega) (by omega)) ?_
      refine oN 1 ?_
      refine oC [] ?_
      refine ct (wrow_q (R:=R) (ws:=[appL,Lib.itoa yr,Lib.itoa tk]) (by rw [qR];simp [apRow,unspl,numB]) (by simp) (by simp) (by simp;omega)) ?_
      refine WOps.callM rfl rfl rfl rfl [(10000,40),(15000,9001)] rfl [9001] rfl (by decide) (by simp [hc1,hT0,ho8,ha8,ho0,hA10,hA1n,hB10,hI0,hc2,hin,hI1,hc5,hjl,ha,hao,hbd,hws,hC0,hC10];first | rfl | exact ⟨rfl,rfl⟩) (by simp [hc1,hT0,ho8,ha8,ho0,hA10,hA1n,hB10,hI0,hc2,hin,hI1,hc5,hjl,ha,hao,hbd,hws,hC0,hC10];rfl) ?_
      refine CallT.mkE (WriteString_ok true y2 (B1 j) (ba R) (by rw [ba_size];omega)) (fun z58 hz58=>⟨(by simp [hc1,hT0,ho8,ha8,ho0,hA10,hA1n,hB10,hI0,hc2,hin,hI1,hc5,hjl,ha,hao,hbd,hws,hC0,hC10]), ?_⟩)
      refine ⟨(by simp [hc1,hT0,ho8,ha8,ho0,hA10,hA1n,hB10,hI0,hc2,hin,hI1,hc5,hjl,ha,hao,hbd,hws,hC0,hC10]), ?_⟩
      refine WOps.norm (by simp [hc1,hT0,ho8,ha8,ho0,hA10,hA1n,hB10,hI0,hc2,hin,hI1,hc5,hjl,ha,hao,hbd,hws,hC0,hC10];rfl) ?_
      refine oK [1,5,10,44,45,46] ?_
      refine rK [1,5,10,44,45,46,60,61,62] ?_
      refine W.block ?_
      refine lpa (α:=Value×Nat) [1,5,10,44,45,46,60,61] [68,74,75,76,77] [40,9001] (fun x=>[(62,I x.2)]) (fun x=>[(40,.cus (boxC 70 true x.1)),(9001,.cus (bufC 5 x.1 (C1 x.2)))]) (fun x=>x.2≤ws.length) (fun x=>ws.length-x.2) (z58,0) v0 ?_
      ·
       intro ⟨y3,k⟩ hI2
       simp only [List.cons_append,List.nil_append]
       try dsimp only at hI2
       replace F:=F.add hI2
       refine rK [1,5,10,44,45,46,60,61,62,63] ?_
       refine W.seqk fun K9 hK9=>?_
       refine it (fun hc6=>?_) (fun hc6=>?_)
       ·
        try simp at hc6
        replace F:=F.add hc6
        refine W.skip ?_
        refine hK9 _ ?_
        clear hK9 K9
        refine W.seqk fun K10 hK10=>?_
        refine W.block ?_
        have hkl:k<ws.length:=by omega
        have hkb:k<bd.length:=by omega
        obtain ⟨w1,qw1⟩:∃w,ws[k]'hkl=w:=⟨_,rfl⟩
        obtain ⟨b1,qb1⟩:∃b,bd[k]'hkb=b:=⟨_,rfl⟩
        have hw1:=qw1
        have hb1:=qb1
        have hwo:ws[k]?=some w1:=by rw [List.getElem?_eq_getElem hkl,qw1]
        have hbo:bd[k]?=some b1:=by rw [List.getElem?_eq_getElem hkb,qb1]
        have qwr : -1≤w1∧w1≤1000000000:=qok.2.2.1 w1 (by rw [←qw1];exact List.getElem_mem hkl)
        have qbr : -1≤b1∧b1≤1000000000:=qok.2.2.2.1 b1 (by rw [←qb1];exact List.getElem_mem hkb)
        have qlk:=ql3 k
        obtain ⟨R1,qR1⟩:∃R,R=wsRow (w1,b1)++[10]:=⟨_,rfl⟩
        have hCs:C1 (k+1)=C1 k++R1:=by
          rw [qC1,qR1]
          show C0++flatRows (((ws.zip bd).take (k+1)).map wsRow)=C0++flatRows (((ws.zip bd).take k).map wsRow)++_
          rw [List.take_succ_eq_append_getElem (by omega:k<(ws.zip bd).length),List.getElem_zip,qw1,qb1,List.map_append,List.map_singleton,flatRows_snoc,List.append_assoc]
        have qRl1:R1.length≤65:=by
          have:=numB2_len qwr qbr
          rw [qR1]
          simp only [wsRow,List.length_append,List.length_cons,List.length_nil]
          omega
        have qiw:=int_len qwr
        have qib:=int_len qbr
        replace F:=F.add hkl |>.add hkb |>.add hw1 |>.add hb1 |>.add hwo |>.add hbo |>.add hCs
        refine rK [1,5,10,11,12,44,45,46,60,61,62] ?_
        refine wDe 7 [(1,[9500])] [[],[0],[],[2],[],[4,2,3],[3,2,4,5],[0,1,5,4,2,3,6],[6,3,2,4,5,7,0,1],[1,0,7,5,4,2,3,6,8],[8,6,3,2,4,5,7,0,1,9]] ?_
        refine dB [([69,70,71,72,73],[],[])] 6 1 ?_
        refine dC [69,70,71,72,73] [true] [] [(10900,9500)] ?_
        refine cd (Itoa_ok ob w1 (by omega) (by omega)) ?_
        refine dB [([67,68,71],[false,false],[9500]),([67,68,71],[false,false,true],[9500]),([67,68,69,70],[false,false,false,false],[9500]),([67,68],[false,false,true,true,true],[9500]),([67,68],[false,false,true,true,true,true],[9500])] 0 7 ?_
        refine dD ?_
        refine oC [(10900,9500)] ?_
        refine ct (Itoa_ok ob b1 (by omega) (by omega)) ?_
        refine oN 1 ?_
        refine oC [] ?_
        refine ct (wrow_q (R:=R1) (ws:=[wshL,Lib.itoa w1,Lib.itoa b1]) (by rw [qR1];simp [wsRow,unspl,numB]) (by simp) (by simp) (by simp;omega)) ?_
        refine WOps.callM rfl rfl rfl rfl [(10000,40),(15000,9001)] rfl [9001] rfl (by decide) (by simp [hc1,hT0,ho8,ha8,ho0,hA10,hA1n,hB10,hI0,hc2,hin,hI1,hc5,hjl,ha,hao,hbd,hws,hC0,hC10,hI2,hc6,hkl,hkb,hw1,hb1,hwo,hbo,hCs];first | rfl | exact ⟨rfl,rfl⟩) (by simp [hc1,hT0,ho8,ha8,ho0,hA10,hA1n,hB10,hI0,hc2,hin,hI1,hc5,hjl,ha,hao,hbd,hws,hC0,hC10,hI2,hc6,hkl,hkb,hw1,hb1,hwo,hbo,hCs];rfl) ?_
        refine CallT.mkE (WriteString_ok true y3 (C1 k) (ba R1) (by rw [ba_size];omega)) (fun z77 hz77=>⟨(by simp [hc1,hT0,ho8,ha8,ho0,hA10,hA1n,hB10,hI0,hc2,hin,hI1,hc5,hjl,ha,hao,hbd,hws,hC0,hC10,hI2,hc6,hkl,hkb,hw1,hb1,hwo,hbo,hCs]), ?_⟩)
        refine ⟨(by simp [hc1,hT0,ho8,ha8,ho0,hA10,hA1n,hB10,hI0,hc2,hin,hI1,hc5,hjl,ha,hao,hbd,hws,hC0,hC10,hI2,hc6,hkl,hkb,hw1,hb1,hwo,hbo,hCs]), ?_⟩
        refine WOps.norm (by simp [hc1,hT0,ho8,ha8,ho0,hA10,hA1n,hB10,hI0,hc2,hin,hI1,hc5,hjl,ha,hao,hbd,hws,hC0,hC10,hI2,hc6,hkl,hkb,hw1,hb1,hwo,hbo,hCs];rfl) ?_
        refine WOps.endK ?_
        refine hK10 _ ?_
        clear hK10 K10
        refine rEw ?_
        refine ⟨(z77,k+1),lf0,v0,v0⟩
       ·
        try simp at hc6
        replace F:=F.add hc6
        refine W.exit ?_
        refine hK8 _ ?_
        clear hK9 K9 hK8 K8
        have hkn:k=ws.length:=by omega
        replace F:=F.add hkn
        refine rEw ?_
        refine ⟨(y3,j+1),lf0,v0,v0⟩
     ·
      try simp at hc5
      replace F:=F.add hc5
      refine W.exit ?_
      refine hK6 _ ?_
      clear hK7 K7 hK6 K6
      have hjn:j=l.apps.length:=by omega
      obtain ⟨R,qR⟩:∃R,R=enRow l.apps.length++[10]:=⟨_,rfl⟩
      have qil:=int_len (n:=(l.apps.length:Int)) (by omega)
      have qlv:=ql2 l.apps.length
      have qRl:R.length≤65:=by
        rw [qR]
        simp only [enRow,numB,List.length_append,List.length_cons,List.length_nil]
        omega
      have qfin:B1 l.apps.length++R=wr2 l:=by
        rw [qB1,qF1,qR]
        show flatRows (l.stalls.map stRow)++flatRows ((l.apps.take l.apps.length).flatMap apRows)++_=_
        rw [List.take_length,wr2,rows2,flatRows_app,flatRows_app]
        simp [flatRows]
      have qne:B1 l.apps.length++R≠[]:=by rw [qR];simp
      replace F:=F.add hjn
      refine W.seqR ?_
      refine oN 3 ?_
      refine oC [(10900,10900)] ?_
      refine ct (Itoa_ok ob (l.apps.length:Int) (by omega) (by omega)) ?_
      refine oN 1 ?_
      refine fz 672 ?_
      refine oC [] ?_
      refine ct (wrow_q (R:=R) (ws:=[enL,Lib.itoa (l.apps.length:Int)]) (by rw [qR];simp [enRow,unspl,numB]) (by simp) (by simp) (by simp;omega)) ?_
      refine WOps.callM rfl rfl rfl rfl [(10000,40),(15000,9001)] rfl [9001] rfl (by decide) (by simp [hc1,hT0,ho8,ha8,ho0,hA10,hA1n,hB10,hI0,hc2,hin,hI1,hc5,hjn];first | rfl | exact ⟨rfl,rfl⟩) (by simp [hc1,hT0,ho8,ha8,ho0,hA10,hA1n,hB10,hI0,hc2,hin,hI1,hc5,hjn];rfl) ?_
      refine CallT.mkE (WriteString_ok true y2 (B1 l.apps.length) (ba R) (by rw [ba_size];omega)) (fun z86 hz86=>⟨(by simp [hc1,hT0,ho8,ha8,ho0,hA10,hA1n,hB10,hI0,hc2,hin,hI1,hc5,hjn]), ?_⟩)
      refine ⟨(by simp [hc1,hT0,ho8,ha8,ho0,hA10,hA1n,hB10,hI0,hc2,hin,hI1,hc5,hjn]), ?_⟩
      refine WOps.norm (by simp [hc1,hT0,ho8,ha8,ho0,hA10,hA1n,hB10,hI0,hc2,hin,hI1,hc5,hjn];rfl) ?_
      refine oK [5] ?_
      refine W.seqR ?_
      refine WOps.callM rfl rfl rfl rfl [(10000,40),(15000,9001)] rfl [9001] rfl (by decide) (by simp [hc1,hT0,ho8,ha8,ho0,hA10,hA1n,hB10,hI0,hc2,hin,hI1,hc5,hjn];first | rfl | exact ⟨rfl,rfl⟩) (by simp [hc1,hT0,ho8,ha8,ho0,hA10,hA1n,hB10,hI0,hc2,hin,hI1,hc5,hjn];rfl) ?_
      refine CallT.mk (String_ok true z86 (B1 l.apps.length++R) qne) (by simp [hc1,hT0,ho8,ha8,ho0,hA10,hA1n,hB10,hI0,hc2,hin,hI1,hc5,hjn]) ?_
      refine ⟨(by simp [hc1,hT0,ho8,ha8,ho0,hA10,hA1n,hB10,hI0,hc2,hin,hI1,hc5,hjn]), ?_⟩
      refine WOps.norm (by simp [hc1,hT0,ho8,ha8,ho0,hA10,hA1n,hB10,hI0,hc2,hin,hI1,hc5,hjn];rfl) ?_
      refine oN 2 ?_
      refine oK [2,3] ?_
      refine W.ret ?_
      refine er false [] [(10900,10900)] ?_
      first
      | exact ⟨by rw [wr2X,if_pos hT0,hT0,qfin];rfl,rfl⟩
      | exact ⟨by rw [wr2X,if_neg hc1];rfl,rfl⟩
end Go.Sim
