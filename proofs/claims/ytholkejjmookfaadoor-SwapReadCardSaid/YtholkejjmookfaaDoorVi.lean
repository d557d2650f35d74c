/- What blocks: a group's search. -/
import Derived.Test.YtholkejjmookfaaDoorVh
namespace Go.Sim.W6
open Go.Proofs Go.Plain
set_option maxRecDepth 100000
set_option linter.unusedSimpArgs false
set_option linter.unusedVariables false
attribute [-simp] List.map_set List.map_take List.map_drop
attribute [local simp] take_map' drop_map'
def canG (ow:List Turn) (lk:List (List Turn)) (held:List Turn) (i o:Nat):Bool:=!(decide (rk ow lk i (nth ow o)=17))&&!(decide (rk ow lk i (nth held i)<rk ow lk i (nth ow o)))
def gainG (ow:List Turn) (lk:List (List Turn)) (held:List Turn) (i o:Nat):Bool:=decide (rk ow lk i (nth ow o)<rk ow lk i (nth held i))
theorem canG_eq {ow:List Turn}{lk:List (List Turn)}{held:List Turn}{i o:Nat}(_:i<ow.length) (ho:o<ow.length) (hi:i<held.length):canG ow lk held i o=(!(decide (rk ow lk i ow[o]=17))&&!(decide (rk ow lk i held[i]<rk ow lk i ow[o]))):=by rw [canG,nth_get ho,nth_get hi]
theorem gainG_eq {ow:List Turn}{lk:List (List Turn)}{held:List Turn}{i o:Nat}(_:i<ow.length) (ho:o<ow.length) (hi:i<held.length):gainG ow lk held i o=decide (rk ow lk i ow[o]<rk ow lk i held[i]):=by rw [gainG,nth_get ho,nth_get hi]
theorem any_drop {α:Type}{p:α→Bool}{l:List α}{k:Nat}(h:k<l.length):(l.drop k).any p=(p l[k]||(l.drop (k+1)).any p):=by rw [List.drop_eq_getElem_cons h,List.any_cons]
theorem set_back {l:List Bool}{i:Nat}(h:i<l.length) (h0:l[i]=false):(l.set i true).set i false=l:=by rw [List.set_set,←h0,List.set_getElem_self]
def giveB (can gain:Nat→Nat→Bool) (g:List Nat):Nat→List Bool→Nat→Bool→Bool
  | 0,_,_,_=>false
  | f+1,tk,next,more=>if next=g.length then more else g.any fun o=>!nth tk o&&can (nth g next) o&&giveB can gain g f (tk.set o true) (next+1) (more||gain (nth g next) o)
theorem give_step (ow:List Turn) (lk:List (List Turn)) (held:List Turn) (hv:ValidT ow lk) (hh:held.length=ow.length) (g:List Nat) (hg:∀y∈g,y<ow.length) (hg8:g.length≤8) (f next:Nat) (tk:List Bool) (more:Bool) (htk:tk.length=ow.length) (hnx:next≤g.length) (ih:∀(tk:List Bool) (more:Bool),tk.length=ow.length→next+1≤g.length→ACalls Tryd.prog 51 [I ((next:Int)+1),B more,.ptr 10000 0 0,.ptr 10001 0 0,.ptr 10002 0 0,.ptr 10003 0 0,.ptr 10004 0 0] [(10000,.row false 22 1 [rgV g]),(10001,.row false 27 2 [trade ow lk]),(10002,.row false 24 1 [turns held]),(10003,.row false 98 1 [.own 10005 0 tk.length]),(10004,.row false 99 1 [.clo 51 [.ptr 10000 0 0,.ptr 10001 0 0,.ptr 10002 0 0,.ptr 10003 0 0,.ptr 10004 0 0]]),(10005,.row true 4 1 (tk.map B))] (fun r o=>∃tk' : List Bool,r=B (giveB (canG ow lk held) (gainG ow lk held) g f tk (next+1) more)∧o=[(10000,.row false 22 1 [rgV g]),(10001,.row false 27 2 [trade ow lk]),(10002,.row false 24 1 [turns held]),(10003,.row false 98 1 [.own 10005 0 tk.length]),(10004,.row false 99 1 [.clo 51 [.ptr 10000 0 0,.ptr 10001 0 0,.ptr 10002 0 0,.ptr 10003 0 0,.ptr 10004 0 0]]),(10005,.row true 4 1 (tk'.map B))]∧tk'.length=tk.length∧(giveB (canG ow lk held) (gainG ow lk held) g f tk (next+1) more=false→tk'=tk))):ACalls Tryd.prog 51 [I next,B more,.ptr 10000 0 0,.ptr 10001 0 0,.ptr 10002 0 0,.ptr 10003 0 0,.ptr 10004 0 0] [(10000,.row false 22 1 [rgV g]),(10001,.row false 27 2 [trade ow lk]),(10002,.row false 24 1 [turns held]),(10003,.row false 98 1 [.own 10005 0 tk.length]),(10004,.row false 99 1 [.clo 51 [.ptr 10000 0 0,.ptr 10001 0 0,.ptr 10002 0 0,.ptr 10003 0 0,.ptr 10004 0 0]]),(10005,.row true 4 1 (tk.map B))] (fun r o=>∃tk' : List Bool,r=B (giveB (canG ow lk held) (gainG ow lk held) g (f+1) tk next more)∧o=[(10000,.row false 22 1 [rgV g]),(10001,.row false 27 2 [trade ow lk]),(10002,.row false 24 1 [turns held]),(10003,.row false 98 1 [.own 10005 0 tk.length]),(10004,.row false 99 1 [.clo 51 [.ptr 10000 0 0,.ptr 10001 0 0,.ptr 10002 0 0,.ptr 10003 0 0,.ptr 10004 0 0]]),(10005,.row true 4 1 (tk'.map B))]∧tk'.length=tk.length∧(giveB (canG ow lk held) (gainG ow lk held) g (f+1) tk next more=false→tk'=tk)):=by
 have F:=Fx.nil
 replace F:=F.add hnx
 refine ent Tryd.func51 Tryd.ntmps51 Tryd.results51 ?_
 have hn8:ow.length≤8:=hv.most
 have qs:lk.length=ow.length:=hv.same
 replace F:=F.add hn8
 refine rK [0,1,2,3,4,5,6] ?_
 refine W.seqk fun K1 hK1=>?_
 refine rK [0,1,2,3,4,5,6,18] ?_
 refine it (fun hc1=>?_) (fun hc1=>?_)
 ·
  try simp at hc1
  replace F:=F.add hc1
  refine rK [9] ?_
  refine W.ret ?_
  refine tr ?_
  clear hK1 K1
  refine er false [] [(10000,10000),(10001,10001),(10002,10002),(10003,10003),(10004,10004),(10005,10005)] ?_
  exact ⟨tk,by rw [giveB,if_pos (by omega)],rfl,rfl,fun _=>rfl⟩
 ·
  try simp at hc1
  replace F:=F.add hc1
  have hnl:next<g.length:=by omega
  have hi:g[next]<ow.length:=hg _ (List.getElem_mem hnl)
  have hih:g[next]<held.length:=by omega
  replace F:=F.add hnl |>.add hi |>.add hih
  refine W.skip ?_
  refine hK1 _ ?_
  clear hK1 K1
  refine rK [0,1,2,3,4,5,6,10] ?_
  refine wD 6 [] [[],[],[],[],[3,2],[2,3,4],[4,3,2,5,1,0],[0,1,5,2,3,4,6]] ?_
  refine dB [([25,26,27,28,29],[],[]),([24,26,27,28,29],[false],[]),([24,25,27],[false,false],[]),([24,25,26],[false,false,false],[]),([24,25],[false,false,true,true],[]),([24,25],[false,false,true,true,true],[])] 0 6 ?_
  refine dD ?_
  refine oC [] ?_
  refine ct (rank_ok' ow lk g[next] held[g[next]] (by omega) (by omega)) ?_
  refine oN 1 ?_
  refine oK [0,1,2,3,5,6,10,11] ?_
  refine W.seqk fun K2 hK2=>?_
  refine rK [0,1,3,5,6,10,11,31,32,33] ?_
  refine W.block ?_
  refine lpa (α:=Nat) [0,1,3,5,6,10,11,31,32] [44,70] [] (fun k=>[(33,I k)]) (fun k=>[]) (fun k=>k≤g.length∧giveB (canG ow lk held) (gainG ow lk held) g (f+1) tk next more=(g.drop k).any fun o=>!nth tk o&&canG ow lk held g[next] o&&giveB (canG ow lk held) (gainG ow lk held) g f (tk.set o true) (next+1) (more||gainG ow lk held g[next] o)) (fun k=>g.length-k) 0 ?_ ?_
  ·
   exact ⟨by omega,by rw [giveB,if_neg (by omega),nth_get hnl];rfl⟩
  ·
   intro k hI0
   simp only [List.cons_append,List.nil_append]
   try dsimp only at hI0
   obtain ⟨hkl,he⟩:=hI0
   replace F:=F.add hkl
   refine rK [0,1,3,5,6,10,11,31,32,33,34] ?_
   refine W.seqk fun K3 hK3=>?_
   refine it (fun hc2=>?_) (fun hc2=>?_)
   ·
    try simp at hc2
    replace F:=F.add hc2
    refine W.skip ?_
    refine hK3 _ ?_
    clear hK3 K3
    refine W.seqk fun K4 hK4=>?_
    refine W.block ?_
    have hk:k<g.length:=by omega
    have ho:g[k]<ow.length:=hg _ (List.getElem_mem hk)
    have hot:g[k]<tk.length:=by omega
    have qhe:=he
    rw [any_drop hk,show nth tk g[k]=tk[g[k]] from nth_get hot,canG_eq hi ho hih,gainG_eq hi ho hih] at qhe
    replace F:=F.add hk |>.add ho |>.add hot
    refine rK [0,1,3,5,6,10,11,13,31,32,33] ?_
    refine wD 7 [] [[],[],[],[2],[],[4,2,3],[3,2,4,5],[5,4,2,3,6,1,0],[0,1,6,3,2,4,5,7]] ?_
    refine dB [([38,39,40,41,42,43],[],[]),([37,39,40,41,42,43],[false],[]),([37,38,41],[false,false],[]),([37,38,41],[false,false,true],[]),([37,38,39,40],[false,false,false,false],[]),([37,38],[false,false,true,true,true],[]),([37,38],[false,false,true,true,true,true],[])] 0 7 ?_
    refine dD ?_
    refine oC [] ?_
    refine ct (rank_ok' ow lk g[next] ow[g[k]] (by omega) (by omega)) ?_
    refine oN 1 ?_
    refine oK [0,1,3,5,6,10,11,13,14,31,32,33] ?_
    refine W.seqk fun K5 hK5=>?_
    by_cases htn:tk[g[k]]=true
    ·
     replace F:=F.add htn
     refine W.seqR ?_
     refine oN 5 ?_
     refine gF ?_
     refine gF ?_
     refine oN 2 ?_
     refine gF ?_
     refine gF ?_
     refine gF ?_
     refine oN 1 ?_
     refine oK [0,1,3,5,6,10,11,13,14,31,32,33,57] ?_
     refine cT ?_
     refine W.exit ?_
     refine hK4 _ ?_
     clear hK5 K5 hK4 K4
     refine rEw ?_
     refine ⟨k+1,lf0, ?_,v0⟩
     ·
      exact ⟨by omega,by rw [qhe];simp [htn]⟩
    ·
     replace F:=F.add htn
     by_cases hn17:rk ow lk g[next] ow[g[k]]=17
     ·
      replace F:=F.add hn17
      refine W.seqR ?_
      refine oN 5 ?_
      refine gT ?_
      refine gT ?_
      refine oN 2 ?_
      refine gF ?_
      refine gF ?_
      refine gF ?_
      refine oN 1 ?_
      refine oK [0,1,3,5,6,10,11,13,14,31,32,33,57] ?_
      refine cT ?_
      refine W.exit ?_
      refine hK4 _ ?_
      clear hK5 K5 hK4 K4
      refine rEw ?_
      refine ⟨k+1,lf0, ?_,v0⟩
      ·
       exact ⟨by omega,by rw [qhe];simp [hn17]⟩
     ·
      replace F:=F.add hn17
      by_cases hgt:rk ow lk g[next] held[g[next]]<rk ow lk g[next] ow[g[k]]
      ·
       replace F:=F.add hgt
       refine W.seqR ?_
       refine oN 5 ?_
       refine gT ?_
       refine gT ?_
       refine oN 2 ?_
       refine gX ?_
       refine gX ?_
       refine gX ?_
       refine oN 1 ?_
       refine oK [0,1,3,5,6,10,11,13,14,31,32,33,57] ?_
       refine cT ?_
       refine W.exit ?_
       refine hK4 _ ?_
       clear hK5 K5 hK4 K4
       refine rEw ?_
       refine ⟨k+1,lf0, ?_,v0⟩
       ·
        exact ⟨by omega,by rw [qhe];simp [hgt]⟩
      ·
       replace F:=F.add hgt
       refine W.seqR ?_
       refine oN 5 ?_
       refine gT ?_
       refine gT ?_
       refine oN 2 ?_
       refine gX ?_
       refine gX ?_
       refine gX ?_
       refine oN 1 ?_
       refine oK [0,1,3,5,6,10,11,13,14,31,32,33,57] ?_
       refine cF ?_
       refine W.skip ?_
       refine hK5 _ ?_
       clear hK5 K5
       refine rK [0,1,3,5,6,10,11,13,14,31,32,33] ?_
       refine W.seqk fun K6 hK6=>?_
       by_cases hmo:more=true
       ·
        replace F:=F.add hmo
        have ih0:=ih (tk.set g[k] true) true (by simp [htk]) (by omega)
        simp only [List.length_set] at ih0
        refine W.seqR ?_
        refine oNw 5 ?_
        refine gF ?_
        refine gF ?_
        refine gF ?_
        refine oN 1 ?_
        refine oC [(10000,10000),(10001,10001),(10002,10002),(10003,10003),(10004,10004),(10005,10005)] ?_
        refine CallT.mkE (ih0) (fun z70 hz70=>⟨(by simp [hnx,hn8,hc1,hnl,hi,hih,hkl,hc2,hk,ho,hot,htn,hn17,hgt,hmo]), ?_⟩)
        refine WOps.norm (by simp [hnx,hn8,hc1,hnl,hi,hih,hkl,hc2,hk,ho,hot,htn,hn17,hgt,hmo];rfl) ?_
        refine oK [0,1,3,5,6,10,11,13,31,32,33,70] ?_
        refine it (fun hc7=>?_) (fun hc7=>?_)
        ·
         try simp at hc7
         replace F:=F.add hc7
         refine rK [9] ?_
         refine W.ret ?_
         refine tr (br (tr (tr (br (tr ?_)))))
         clear hK6 K6 hK4 K4 hK2 K2
         refine er false [] [(10000,10000),(10001,10001),(10002,10002),(10003,10003),(10004,10004),(10005,10005)] ?_
         have hq:giveB (canG ow lk held) (gainG ow lk held) g (f+1) tk next more=true:=by rw [qhe];simp [htn,hn17,hgt,hmo,hc7]
         exact ⟨z70,by rw [hq],rfl,hz70.1,fun h=>by rw [hq] at h;cases h⟩
        ·
         try simp at hc7
         replace F:=F.add hc7
         refine W.skip ?_
         refine hK6 _ ?_
         clear hK6 K6
         obtain ⟨hzl,hze⟩:=hz70
         obtain rfl:=hze (by assumption)
         have hset:(tk.set g[k] true).set g[k] false=tk:=set_back hot (by simpa using htn)
         replace F:=F.add hset
         refine rE ?_
         refine hK4 _ ?_
         clear hK4 K4
         refine rEw ?_
         refine ⟨k+1,lf0,v0,v0⟩
       ·
        replace F:=F.add hmo
        have ih0:=ih (tk.set g[k] true) (decide (rk ow lk g[next] ow[g[k]]<rk ow lk g[next] held[g[next]])) (by simp [htk]) (by omega)
        simp only [List.length_set] at ih0
        refine W.seqR ?_
        refine oNw 5 ?_
        refine gT ?_
        refine gT ?_
        refine gT ?_
        refine oN 1 ?_
        refine oC [(10000,10000),(10001,10001),(10002,10002),(10003,10003),(10004,10004),(10005,10005)] ?_
        refine CallT.mkE (ih0) (fun z70 hz70=>⟨(by simp [hnx,hn8,hc1,hnl,hi,hih,hkl,hc2,hk,ho,hot,htn,hn17,hgt,hmo]), ?_⟩)
        refine WOps.norm (by simp [hnx,hn8,hc1,hnl,hi,hih,hkl,hc2,hk,ho,hot,htn,hn17,hgt,hmo];rfl) ?_
        refine oK [0,1,3,5,6,10,11,13,31,32,33,70] ?_
        refine it (fun hc8=>?_) (fun hc8=>?_)
        ·
         try simp at hc8
         replace F:=F.add hc8
         refine rK [9] ?_
         refine W.ret ?_
         refine tr (br (tr (tr (br (tr ?_)))))
         clear hK6 K6 hK4 K4 hK2 K2
         refine er false [] [(10000,10000),(10001,10001),(10002,10002),(10003,10003),(10004,10004),(10005,10005)] ?_
         have hq:giveB (canG ow lk held) (gainG ow lk held) g (f+1) tk next more=true:=by rw [qhe];simp [htn,hn17,hgt,hmo,hc8]
         exact ⟨z70,by rw [hq],rfl,hz70.1,fun h=>by rw [hq] at h;cases h⟩
        ·
         try simp at hc8
         replace F:=F.add hc8
         refine W.skip ?_
         refine hK6 _ ?_
         clear hK6 K6
         obtain ⟨hzl,hze⟩:=hz70
         obtain rfl:=hze (by assumption)
         have hset:(tk.set g[k] true).set g[k] false=tk:=set_back hot (by simpa using htn)
         replace F:=F.add hset
         refine rE ?_
         refine hK4 _ ?_
         clear hK4 K4
         refine rEw ?_
         refine ⟨k+1,lf0,v0,v0⟩
   ·
    try simp at hc2
    replace F:=F.add hc2
    refine W.exit ?_
    refine hK2 _ ?_
    clear hK3 K3 hK2 K2
    refine rK [9] ?_
    refine W.ret ?_
    refine er false [] [(10000,10000),(10001,10001),(10002,10002),(10003,10003),(10004,10004),(10005,10005)] ?_
    exact ⟨tk,by rw [he,List.drop_of_length_le hc2];rfl,rfl,rfl,fun _=>rfl⟩
theorem give_ok (ow:List Turn) (lk:List (List Turn)) (held:List Turn) (hv:ValidT ow lk) (hh:held.length=ow.length) (g:List Nat) (hg:∀y∈g,y<ow.length) (hg8:g.length≤8):∀(f next:Nat) (tk:List Bool) (more:Bool),tk.length=ow.length→next≤g.length→g.length<f+next →
    ACalls Tryd.prog 51 [I (next:Int),B more,.ptr 10000 0 0,.ptr 10001 0 0,.ptr 10002 0 0,.ptr 10003 0 0,.ptr 10004 0 0] [(10000,.row false 22 1 [rgV g]),(10001,.row false 27 2 [trade ow lk]),(10002,.row false 24 1 [turns held]),(10003,.row false 98 1 [.own 10005 0 tk.length]),(10004,.row false 99 1 [.clo 51 [.ptr 10000 0 0,.ptr 10001 0 0,.ptr 10002 0 0,.ptr 10003 0 0,.ptr 10004 0 0]]),(10005,.row true 4 1 (tk.map B))] (fun r o=>∃tk' : List Bool,r=B (giveB (canG ow lk held) (gainG ow lk held) g f tk next more)∧o=[(10000,.row false 22 1 [rgV g]),(10001,.row false 27 2 [trade ow lk]),(10002,.row false 24 1 [turns held]),(10003,.row false 98 1 [.own 10005 0 tk.length]),(10004,.row false 99 1 [.clo 51 [.ptr 10000 0 0,.ptr 10001 0 0,.ptr 10002 0 0,.ptr 10003 0 0,.ptr 10004 0 0]]),(10005,.row true 4 1 (tk'.map B))]∧tk'.length=tk.length∧(giveB (canG ow lk held) (gainG ow lk held) g f tk next more=false→tk'=tk))
  | 0,next,_,_,_,h1,h2=>by omega
  | f+1,next,tk,more,h0,h1,h2=>give_step ow lk held hv hh g hg hg8 f next tk more h0 h1 fun tk' more' e1 e2=>give_ok ow lk held hv hh g hg hg8 f (next+1) tk' more' e1 e2 (by omega)
def blockG (ow:List Turn) (lk:List (List Turn)) (held:List Turn) (g:List Nat):Bool:=giveB (canG ow lk held) (gainG ow lk held) g (g.length+1) (List.replicate ow.length false) 0 false
theorem blocks_ok (ow:List Turn) (lk:List (List Turn)) (held:List Turn) (g:List Nat) (hv:ValidT ow lk) (hh:held.length=ow.length) (hg:∀y∈g,y<ow.length) (hg8:g.length≤8):ACalls Tryd.prog 35 [trade ow lk,turns held,rgV g] [] (fun r o=>r=B (blockG ow lk held g)∧o=[]):=by
 have F:=Fx.nil
 refine ent Tryd.func35 Tryd.ntmps35 Tryd.results35 ?_
 have hn8:ow.length≤8:=hv.most
 have hnn:(ow.length:Int)≤16777216:=by omega
 have qgk:=give_ok ow lk held hv hh g hg hg8 (g.length+1) 0 (List.replicate ow.length false) false (by simp) (by omega) (by omega)
 simp only [List.map_replicate,List.length_replicate] at qgk
 replace F:=F.add hn8 |>.add hnn
 refine rK [3,4,5] ?_
 refine rK [3,4,5,7] ?_
 refine rK [3,4,5,7,8] ?_
 refine rK [8] ?_
 refine W.seqR ?_
 refine oN 1 ?_
 refine oC [(10000,40),(10001,24),(10002,32),(10003,56),(10004,64),(10005,96)] ?_
 refine CallT.mkE (qgk) (fun z15 hz15=>⟨(by simp [hn8,hnn]), ?_⟩)
 refine WOps.norm (by simp [hn8,hnn];rfl) ?_
 refine oN 1 ?_
 refine oK [6] ?_
 refine W.ret ?_
 refine er false [] [] ?_
 exact ⟨rfl,rfl⟩
end Go.Sim.W6
