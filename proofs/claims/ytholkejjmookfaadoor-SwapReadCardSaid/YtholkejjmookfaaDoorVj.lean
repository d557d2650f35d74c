/- All groups, handed out one after the other. -/
import Derived.Test.YtholkejjmookfaaDoorVi
import Derived.Test.YtholkejjmookfaaDoorMc
namespace Go.Sim.W6
open Go.Proofs Go.Plain
set_option maxRecDepth 100000
set_option linter.unusedSimpArgs false
set_option linter.unusedVariables false
attribute [-simp] List.map_set List.map_take List.map_drop
attribute [local simp] take_map' drop_map'
def natV (n:Nat):Value:=.int .i64 (n:Int)
theorem map_natV (l:List Nat):l.map nI=(l.map natV).map AV.val:=by simp [natV,Function.comp_def]
def gr (n many:Nat):Nat→List Nat→Nat→List (List Nat)
  | 0,_,_=>[]
  | f+1,l,next=>if l.length=many then [l] else (List.range' next (n-next)).flatMap fun i=>gr n many f (l++[i]) (i+1)
def Jof (J0:Fgn) (JX:List Nat→Fgn):Option (List Nat)→Fgn
  | none=>J0
  | some g=>JX g
theorem gr_full {n many f next:Nat}{l:List Nat}(h:l.length=many):gr n many (f+1) l next=[l]:=if_pos h
theorem gr_go {n many f next:Nat}{l:List Nat}(h:l.length≠many):gr n many (f+1) l next=(List.range' next (n-next)).flatMap fun i=>gr n many f (l++[i]) (i+1):=if_neg h
theorem find_step {g:Nat→List (List Nat)}{stop:List Nat→Bool}{i n:Nat}(h:i<n):((List.range' i (n-i)).flatMap g).find? stop=((g i).find? stop).or (((List.range' (i+1) (n-(i+1))).flatMap g).find? stop):=by
  rw [range'_next h,List.flatMap_cons,List.find?_append]
theorem find_done {g:Nat→List (List Nat)}{stop:List Nat→Bool}{i n:Nat}(h:n≤i):((List.range' i (n-i)).flatMap g).find? stop=none:=by rw [range'_done h];rfl
theorem Jof_one (J0:Fgn) (JX:List Nat→Fgn) (stop:List Nat→Bool) (l:List Nat):Jof J0 JX ([l].find? stop)=if stop l then JX l else J0:=by
  simp only [List.find?_cons,List.find?_nil];cases stop l<;>rfl
theorem isNone_one (stop:List Nat→Bool) (l:List Nat):([l].find? stop).isNone = !stop l:=by
  simp only [List.find?_cons,List.find?_nil];cases stop l<;>rfl
theorem Jof_none (J0:Fgn) (JX:List Nat→Fgn):Jof J0 JX none=J0:=rfl
attribute [local simp] Jof_none
theorem walk_own (n many:Nat) (stop:List Nat→Bool) (lp:Nat) (J0:Fgn) (JX:List Nat→Fgn) (hn8:n≤8) (hm0:0<many) (hy:∀g:List Nat,g.length=many→(∀y∈g,y<n)→YieldOk Tryd.prog lp J0 3 (g.map natV) (fun t J'=>t = !stop g∧J'=if stop g then JX g else J0)) (f next cap:Nat) (l:List Nat) (hl0:0<l.length) (hlm:l.length≤many) (hl:∀y∈l,y<n) (hm8:many≤8) (hcap:l.length≤cap) (ih:∀(l' : List Nat) (i cap' : Nat),l'.length=l.length+1→l'.length≤many→(∀y∈l',y<n)→l'.length≤cap'→i+1≤n→ACalls Tryd.prog 50 [.own 10005 0 l'.length,I ((i:Int)+1),.ptr 10000 0 0,.ptr 10001 0 0,.ptr 10002 0 0,.ptr 10003 0 0] [(10000,.row false 3 1 [I many]),(10001,.row false 97 1 [.yld 19999]),(10002,.row false 3 1 [I n]),(10003,.row false 86 1 [.clo 50 [.ptr 10000 0 0,.ptr 10001 0 0,.ptr 10002 0 0,.ptr 10003 0 0]]),(10005,.fix 3 1 cap' (l'.map nI)),(19999,.ext lp J0)] (fun r o=>r=B ((gr n many f l' (i+1)).find? stop).isNone∧o=[(10000,.row false 3 1 [I many]),(10001,.row false 97 1 [.yld 19999]),(10002,.row false 3 1 [I n]),(10003,.row false 86 1 [.clo 50 [.ptr 10000 0 0,.ptr 10001 0 0,.ptr 10002 0 0,.ptr 10003 0 0]]),(10005,.fix 3 1 cap' (l'.map nI)),(19999,.ext lp (Jof J0 JX ((gr n many f l' (i+1)).find? stop)))])):ACalls Tryd.prog 50 [.own 10005 0 l.length,I next,.ptr 10000 0 0,.ptr 10001 0 0,.ptr 10002 0 0,.ptr 10003 0 0] [(10000,.row false 3 1 [I many]),(10001,.row false 97 1 [.yld 19999]),(10002,.row false 3 1 [I n]),(10003,.row false 86 1 [.clo 50 [.ptr 10000 0 0,.ptr 10001 0 0,.ptr 10002 0 0,.ptr 10003 0 0]]),(10005,.fix 3 1 cap (l.map nI)),(19999,.ext lp J0)] (fun r o=>r=B ((gr n many (f+1) l next).find? stop).isNone∧o=[(10000,.row false 3 1 [I many]),(10001,.row false 97 1 [.yld 19999]),(10002,.row false 3 1 [I n]),(10003,.row false 86 1 [.clo 50 [.ptr 10000 0 0,.ptr 10001 0 0,.ptr 10002 0 0,.ptr 10003 0 0]]),(10005,.fix 3 1 cap (l.map nI)),(19999,.ext lp (Jof J0 JX ((gr n many (f+1) l next).find? stop)))]):=by
 have F:=Fx.nil
 replace F:=F.add hl0 |>.add hlm
 refine ent Tryd.func50 Tryd.ntmps50 Tryd.results50 ?_
 refine rK [0,1,2,3,4,5] ?_
 refine W.seqk fun K1 hK1=>?_
 refine rK [0,1,3,4,5,13] ?_
 refine it (fun hc1=>?_) (fun hc1=>?_)
 ·
  try simp at hc1
  replace F:=F.add hc1
  obtain rfl:l.length=many:=by omega
  have qyl:=hy l rfl hl
  refine wD 3 [] [[],[],[1],[1,2,0],[0,2,1,3]] ?_
  refine dB [([15,16],[],[]),([14],[false],[])] 1 2 ?_
  refine dC [14] [false,true] [] [] ?_
  refine cd (CloneN_ok l hl0 (by omega)) ?_
  refine dD ?_
  refine WOps.yieldD (vals:=(l.map natV)) rfl rfl rfl (by simp [hl0,hlm,hc1];all_goals first | rfl | exact ⟨rfl,rfl⟩ | exact ⟨rfl,rfl,rfl⟩) (by simp [hl0,hlm,hc1];all_goals first | rfl | exact ⟨rfl,rfl⟩ | exact ⟨rfl,rfl,rfl⟩) (by simp [hl0,hlm,hc1];all_goals first | rfl | exact ⟨rfl,rfl⟩ | exact ⟨rfl,rfl,rfl⟩) (by simp [hl0,hlm,hc1];all_goals first | rfl | exact ⟨rfl,rfl⟩ | exact ⟨rfl,rfl,rfl⟩) (by first | exact map_natV _ | simp) (by simp) (by simp [hl0,hlm,hc1];all_goals omega) rfl (qyl) ?_
  refine WOps.norm (by simp [hl0,hlm,hc1];rfl) ?_
  refine oN 1 ?_
  refine oK [8] ?_
  refine W.ret ?_
  refine tr ?_
  clear hK1 K1
  refine er false [] [(10000,10000),(10001,10001),(10002,10002),(10003,10003),(10005,10005),(19999,19999)] ?_
  exact ⟨by rw [gr_full rfl,isNone_one],by rw [gr_full rfl,Jof_one]⟩
 ·
  try simp at hc1
  replace F:=F.add hc1
  refine W.skip ?_
  refine hK1 _ ?_
  clear hK1 K1
  refine W.seqk fun K2 hK2=>?_
  refine rK [0,4,5,9] ?_
  refine W.block ?_
  refine lpa (α:=Nat) [0,4,5] [27,28,31] [] (fun i=>[(9,I i)]) (fun i=>[]) (fun i=>next≤i∧(gr n many (f+1) l next).find? stop=((List.range' i (n-i)).flatMap fun i=>gr n many f (l++[i]) (i+1)).find? stop) (fun i=>n-i) next ?_ ?_
  ·
   exact ⟨Nat.le_refl _,by rw [gr_go (by omega)]⟩
  ·
   intro i hI0
   simp only [List.cons_append,List.nil_append]
   try dsimp only at hI0
   obtain ⟨hni,he⟩:=hI0
   refine W.seqk fun K3 hK3=>?_
   refine rK [0,4,5,9,21] ?_
   refine it (fun hc2=>?_) (fun hc2=>?_)
   ·
    try simp at hc2
    replace F:=F.add hc2
    have hlt:l.length+1≤many:=by omega
    have qy:∀y∈l++[i],y<n:=by intro y hy;rcases List.mem_append.1 hy with h | h;exact hl y h;simp at h;omega
    replace F:=F.add hlt
    refine W.skip ?_
    refine hK3 _ ?_
    clear hK3 K3
    refine W.seqk fun K4 hK4=>?_
    refine W.block ?_
    by_cases hroom:l.length+1≤cap
    ·
     replace F:=F.add hroom
     have qih:=ih (l++[i]) i cap (by simp) (by simp;omega) qy (by simp;omega) (by omega)
     simp only [List.map_append,List.map_cons,List.map_nil,List.length_append,List.length_cons,List.length_nil,Nat.zero_add,nI_def] at qih
     refine wD 7 [(4,[10005])] [[],[],[],[2],[2,3,1],[],[5],[5,6,1,3,2,4,0],[0,4,2,3,1,6,5,7]] ?_
     refine dB [([25,26,27,28,29,30],[],[10005]),([24,26,27,29,30],[false],[]),([24,25,29,30],[false,false],[]),([24,25,29,30],[false,false,true],[])] 3 4 ?_
     refine dAw [24,29,30] [false,true,true,true] [] [10005] ?_
     refine dBw [([24,25,26,27,28],[false,false,false,false,false],[10005]),([24,25,26,27,28],[false,false,false,false,false,true],[10005])] 0 7 ?_
     refine dD ?_
     refine oC [(10000,10000),(10001,10001),(10002,10002),(10003,10003),(10005,10005),(19999,19999)] ?_
     refine ct (qih) ?_
     refine oN 1 ?_
     refine oK [0,4,5,9,32] ?_
     refine it (fun hc3=>?_) (fun hc3=>?_)
     ·
      try simp at hc3
      replace F:=F.add hc3
      have q0:∃x,x∈gr n many f (l++[i]) (i+1)∧stop x=true:=by assumption
      obtain ⟨g0,qg⟩:∃g0,(gr n many f (l++[i]) (i+1)).find? stop=some g0:=by
        cases hg0:(gr n many f (l++[i]) (i+1)).find? stop with
        | none =>
          obtain ⟨x,hx,hs⟩:=q0
          have:=List.find?_eq_none.1 hg0 x hx
          simp [hs] at this
        | some g0=>exact ⟨g0,rfl⟩
      have htk:List.take l.length (List.map nI l++[I (i:Int)])=List.map nI l:=List.take_left' (by simp)
      have qr:(gr n many (f+1) l next).find? stop=some g0:=by rw [he,find_step hc2,qg];rfl
      refine W.weaken (Le.fixTake 10005 l.length (by simp;exact ⟨rfl,rfl,rfl,rfl⟩)) ?_
      replace F:=F.add htk
      refine rK [8] ?_
      refine W.ret ?_
      refine br (tr (tr (br (tr ?_))))
      clear hK4 K4 hK2 K2
      refine er false [] [(10000,10000),(10001,10001),(10002,10002),(10003,10003),(10005,10005),(19999,19999)] ?_
      exact ⟨by rw [qr];rfl,by rw [qr,qg]⟩
     ·
      try simp at hc3
      replace F:=F.add hc3
      refine W.skip ?_
      refine hK4 _ ?_
      clear hK4 K4
      have q0:∀x∈gr n many f (l++[i]) (i+1),stop x=false:=by assumption
      have hfn:(gr n many f (l++[i]) (i+1)).find? stop=none:=List.find?_eq_none.2 (fun x hx=>by simp [q0 x hx])
      have htk:List.take l.length (List.map nI l++[I (i:Int)])=List.map nI l:=List.take_left' (by simp)
      refine W.weaken (Le.fixTake 10005 l.length (by simp;exact ⟨rfl,rfl,rfl,rfl⟩)) ?_
      replace F:=F.add hfn |>.add htk
      refine rEw ?_
      refine ⟨i+1,lf0, ?_,v0⟩
      ·
       exact ⟨by omega,by rw [he,find_step hc2,hfn];rfl⟩
    ·
     replace F:=F.add hroom
     refine wD 7 [] [[],[],[],[2],[2,3,1],[],[5],[5,6,1,3,2,4,0],[0,4,2,3,1,6,5,7]] ?_
     refine dB [([25,26,27,28,29,30],[],[]),([24,26,27,29,30],[false],[]),([24,25,29,30],[false,false],[]),([24,25,29,30],[false,false,true],[])] 3 4 ?_
     refine dAw [24,29,30] [false,true,true,true] [] [] ?_
     refine dBw [([24,25,26,27,28],[false,false,false,false,false],[]),([24,25,26,27,28],[false,false,false,false,false,true],[])] 0 7 ?_
     refine dD ?_
     refine WOps.fixed 224 (by simp [hl0,hlm,hc1,hc2,hlt,hroom];first | rfl | exact ⟨rfl,rfl,rfl⟩) rfl rfl fun cap2 hcap2=>?_
     (try simp at hcap2)
     refine WOps.norm (by simp [hl0,hlm,hc1,hc2,hlt,hroom];rfl) ?_
     have qih:=ih (l++[i]) i cap2 (by simp) (by simp;omega) qy (by simp;omega) (by omega)
     simp only [List.map_append,List.map_cons,List.map_nil,List.length_append,List.length_cons,List.length_nil,Nat.zero_add,nI_def] at qih
     refine oC [(10000,10000),(10001,10001),(10002,10002),(10003,10003),(10005,224),(19999,19999)] ?_
     refine ct (qih) ?_
     refine oN 1 ?_
     refine oK [0,4,5,9,32] ?_
     refine it (fun hc4=>?_) (fun hc4=>?_)
     ·
      try simp at hc4
      replace F:=F.add hc4
      have q0:∃x,x∈gr n many f (l++[i]) (i+1)∧stop x=true:=by assumption
      obtain ⟨g0,qg⟩:∃g0,(gr n many f (l++[i]) (i+1)).find? stop=some g0:=by
        cases hg0:(gr n many f (l++[i]) (i+1)).find? stop with
        | none =>
          obtain ⟨x,hx,hs⟩:=q0
          have:=List.find?_eq_none.1 hg0 x hx
          simp [hs] at this
        | some g0=>exact ⟨g0,rfl⟩
      have htk:List.take l.length (List.map nI l++[I (i:Int)])=List.map nI l:=List.take_left' (by simp)
      have qr:(gr n many (f+1) l next).find? stop=some g0:=by rw [he,find_step hc2,qg];rfl
      refine W.weaken (Le.fixTake 10005 l.length (by simp;exact ⟨rfl,rfl,rfl,rfl⟩)) ?_
      replace F:=F.add htk
      refine rK [8] ?_
      refine W.ret ?_
      refine br (tr (tr (br (tr ?_))))
      clear hK4 K4 hK2 K2
      refine er false [] [(10000,10000),(10001,10001),(10002,10002),(10003,10003),(10005,10005),(19999,19999)] ?_
      exact ⟨by rw [qr];rfl,by rw [qr,qg]⟩
     ·
      try simp at hc4
      replace F:=F.add hc4
      refine W.skip ?_
      refine hK4 _ ?_
      clear hK4 K4
      have q0:∀x∈gr n many f (l++[i]) (i+1),stop x=false:=by assumption
      have hfn:(gr n many f (l++[i]) (i+1)).find? stop=none:=List.find?_eq_none.2 (fun x hx=>by simp [q0 x hx])
      have htk:List.take l.length (List.map nI l++[I (i:Int)])=List.map nI l:=List.take_left' (by simp)
      refine W.weaken (Le.fixTake 10005 l.length (by simp;exact ⟨rfl,rfl,rfl,rfl⟩)) ?_
      replace F:=F.add hfn |>.add htk
      refine rEw ?_
      refine ⟨i+1,lf0, ?_,v0⟩
      ·
       exact ⟨by omega,by rw [he,find_step hc2,hfn];rfl⟩
   ·
    try simp at hc2
    replace F:=F.add hc2
    refine W.exit ?_
    refine hK2 _ ?_
    clear hK3 K3 hK2 K2
    refine rK [8] ?_
    refine W.ret ?_
    refine er false [] [(10000,10000),(10001,10001),(10002,10002),(10003,10003),(10005,10005),(19999,19999)] ?_
    have qr:(gr n many (f+1) l next).find? stop=none:=by rw [he,find_done hc2]
    exact ⟨by rw [qr];rfl,by rw [qr];rfl⟩
theorem walk_ok (n many:Nat) (stop:List Nat→Bool) (lp:Nat) (J0:Fgn) (JX:List Nat→Fgn) (hn8:n≤8) (hm0:0<many) (hy:∀g:List Nat,g.length=many→(∀y∈g,y<n)→YieldOk Tryd.prog lp J0 3 (g.map natV) (fun t J'=>t = !stop g∧J'=if stop g then JX g else J0)) (hm8:many≤8):∀(f:Nat) (l:List Nat) (next cap:Nat),l.length≤many→(∀y∈l,y<n)→0<l.length→l.length≤cap→many<f+l.length→ACalls Tryd.prog 50 [.own 10005 0 l.length,I ((next:Nat):Int),.ptr 10000 0 0,.ptr 10001 0 0,.ptr 10002 0 0,.ptr 10003 0 0] [(10000,.row false 3 1 [I many]),(10001,.row false 97 1 [.yld 19999]),(10002,.row false 3 1 [I n]),(10003,.row false 86 1 [.clo 50 [.ptr 10000 0 0,.ptr 10001 0 0,.ptr 10002 0 0,.ptr 10003 0 0]]),(10005,.fix 3 1 cap (l.map nI)),(19999,.ext lp J0)] (fun r o=>r=B ((gr n many f l next).find? stop).isNone∧o=[(10000,.row false 3 1 [I many]),(10001,.row false 97 1 [.yld 19999]),(10002,.row false 3 1 [I n]),(10003,.row false 86 1 [.clo 50 [.ptr 10000 0 0,.ptr 10001 0 0,.ptr 10002 0 0,.ptr 10003 0 0]]),(10005,.fix 3 1 cap (l.map nI)),(19999,.ext lp (Jof J0 JX ((gr n many f l next).find? stop)))])
  | 0,l,next,cap,h1,h2,h3,h4,h5=>by omega
  | f+1,l,next,cap,h1,h2,h3,h4,h5=>walk_own n many stop lp J0 JX hn8 hm0 hy f next cap l h3 h1 h2 hm8 h4 fun l' i cap' k0 k1 k2 k3 _=>walk_ok n many stop lp J0 JX hn8 hm0 hy hm8 f l' (i+1) cap' k1 k2 (by omega) k3 (by omega)
theorem walk_nil (n many:Nat) (stop:List Nat→Bool) (lp:Nat) (J0:Fgn) (JX:List Nat→Fgn) (hn8:n≤8) (hm0:0<many) (hy:∀g:List Nat,g.length=many→(∀y∈g,y<n)→YieldOk Tryd.prog lp J0 3 (g.map natV) (fun t J'=>t = !stop g∧J'=if stop g then JX g else J0)) (hm8:many≤8) (f:Nat) (hf:many≤f):ACalls Tryd.prog 50 [.val (.slice none 0 0),I 0,.ptr 10000 0 0,.ptr 10001 0 0,.ptr 10002 0 0,.ptr 10003 0 0] [(10000,.row false 3 1 [I many]),(10001,.row false 97 1 [.yld 19999]),(10002,.row false 3 1 [I n]),(10003,.row false 86 1 [.clo 50 [.ptr 10000 0 0,.ptr 10001 0 0,.ptr 10002 0 0,.ptr 10003 0 0]]),(19999,.ext lp J0)] (fun r o=>r=B ((gr n many (f+1) [] 0).find? stop).isNone∧o=[(10000,.row false 3 1 [I many]),(10001,.row false 97 1 [.yld 19999]),(10002,.row false 3 1 [I n]),(10003,.row false 86 1 [.clo 50 [.ptr 10000 0 0,.ptr 10001 0 0,.ptr 10002 0 0,.ptr 10003 0 0]]),(19999,.ext lp (Jof J0 JX ((gr n many (f+1) [] 0).find? stop)))]):=by
 have F:=Fx.nil
 refine ent Tryd.func50 Tryd.ntmps50 Tryd.results50 ?_
 have hmz:¬(0:Int)=(many:Int):=by omega
 have hmz2:¬(many:Int)=0:=by omega
 have hmz3:¬many=0:=by omega
 replace F:=F.add hmz |>.add hmz2 |>.add hmz3
 refine rK [0,1,2,3,4,5] ?_
 refine W.seqk fun K1 hK1=>?_
 refine rK [0,1,3,4,5,13] ?_
 refine cF ?_
 refine W.skip ?_
 refine hK1 _ ?_
 clear hK1 K1
 refine W.seqk fun K2 hK2=>?_
 refine rK [0,4,5,9] ?_
 refine W.block ?_
 refine lpa (α:=Nat) [0,4,5] [27,28,31] [] (fun i=>[(9,I i)]) (fun i=>[]) (fun i=>0≤i∧(gr n many (f+1) [] 0).find? stop=((List.range' i (n-i)).flatMap fun i=>gr n many f ([]++[i]) (i+1)).find? stop) (fun i=>n-i) 0 ?_ ?_
 ·
  exact ⟨Nat.le_refl _,by rw [gr_go (by simp;omega)]⟩
 ·
  intro i hI0
  simp only [List.cons_append,List.nil_append]
  try dsimp only at hI0
  obtain ⟨hi0,he⟩:=hI0
  refine W.seqk fun K3 hK3=>?_
  refine rK [0,4,5,9,21] ?_
  refine it (fun hc2=>?_) (fun hc2=>?_)
  ·
   try simp at hc2
   replace F:=F.add hc2
   refine W.skip ?_
   refine hK3 _ ?_
   clear hK3 K3
   refine W.seqk fun K4 hK4=>?_
   refine W.block ?_
   refine wD 7 [] [[],[],[],[2],[2,3,1],[],[5],[5,6,1,3,2,4,0],[0,4,2,3,1,6,5,7]] ?_
   refine dB [([25,26,27,28,29,30],[],[]),([24,26,27,29,30],[false],[]),([24,25,29,30],[false,false],[]),([24,25,29,30],[false,false,true],[])] 3 4 ?_
   refine dAw [24,29,30] [false,true,true,true] [] [] ?_
   refine dBw [([24,25,26,27,28],[false,false,false,false,false],[]),([24,25,26,27,28],[false,false,false,false,false,true],[])] 0 7 ?_
   refine dD ?_
   refine WOps.fixed 224 (by simp [hmz,hmz2,hmz3,hc2];first | rfl | exact ⟨rfl,rfl,rfl⟩) rfl rfl fun cap2 hcap2=>?_
   (try simp at hcap2)
   refine WOps.norm (by simp [hmz,hmz2,hmz3,hc2];rfl) ?_
   have qih:=walk_ok n many stop lp J0 JX hn8 hm0 hy hm8 f [i] (i+1) cap2 (by simp;omega) (by simpa using hc2) (by simp) (by simp;omega) (by simp;omega)
   simp only [List.map_cons,List.map_nil,List.length_cons,List.length_nil,Nat.zero_add,nI_def,Int.natCast_add,Int.cast_ofNat_Int] at qih
   refine oC [(10000,10000),(10001,10001),(10002,10002),(10003,10003),(10005,224),(19999,19999)] ?_
   refine ct (qih) ?_
   refine oN 1 ?_
   refine oK [0,4,5,9,32] ?_
   refine it (fun hc3=>?_) (fun hc3=>?_)
   ·
    try simp at hc3
    replace F:=F.add hc3
    have q0:∃x,x∈gr n many f [i] (i+1)∧stop x=true:=by assumption
    obtain ⟨g0,qg⟩:∃g0,(gr n many f [i] (i+1)).find? stop=some g0:=by
      cases hg0:(gr n many f [i] (i+1)).find? stop with
      | none =>
        obtain ⟨x,hx,hs⟩:=q0
        have:=List.find?_eq_none.1 hg0 x hx
        simp [hs] at this
      | some g0=>exact ⟨g0,rfl⟩
    have qr:(gr n many (f+1) [] 0).find? stop=some g0:=by rw [he,find_step hc2,List.nil_append,qg];rfl
    refine rK [8] ?_
    refine W.ret ?_
    refine br (tr (tr (br (tr ?_))))
    clear hK4 K4 hK2 K2
    refine er false [] [(10000,10000),(10001,10001),(10002,10002),(10003,10003),(19999,19999)] ?_
    exact ⟨by rw [qr];rfl,by rw [qr,qg]⟩
   ·
    try simp at hc3
    replace F:=F.add hc3
    refine W.skip ?_
    refine hK4 _ ?_
    clear hK4 K4
    have q0:∀x∈gr n many f [i] (i+1),stop x=false:=by assumption
    have hfn:(gr n many f [i] (i+1)).find? stop=none:=List.find?_eq_none.2 (fun x hx=>by simp [q0 x hx])
    replace F:=F.add hfn
    refine rEw ?_
    refine ⟨i+1,lf0, ?_,v0⟩
    ·
     exact ⟨by omega,by rw [he,find_step hc2,List.nil_append,hfn];rfl⟩
  ·
   try simp at hc2
   replace F:=F.add hc2
   refine W.exit ?_
   refine hK2 _ ?_
   clear hK3 K3 hK2 K2
   refine rK [8] ?_
   refine W.ret ?_
   refine er false [] [(10000,10000),(10001,10001),(10002,10002),(10003,10003),(19999,19999)] ?_
   have qr:(gr n many (f+1) [] 0).find? stop=none:=by rw [he,find_done hc2]
   exact ⟨by rw [qr];rfl,by rw [qr];rfl⟩
def foundG (n many:Nat) (stop:List Nat→Bool):Option (List Nat):=(gr n many (many+1) [] 0).find? stop
theorem groups1_ok (n many:Nat) (stop:List Nat→Bool) (lp:Nat) (J0:Fgn) (JX:List Nat→Fgn) (hn8:n≤8) (hm0:0<many) (hy:∀g:List Nat,g.length=many→(∀y∈g,y<n)→YieldOk Tryd.prog lp J0 3 (g.map natV) (fun t J'=>t = !stop g∧J'=if stop g then JX g else J0)) (hm8:many≤8):ACalls Tryd.prog 49 [.yld 19999,.ptr 10000 0 0,.ptr 10001 0 0] [(19999,.ext lp J0),(10000,.row false 3 1 [I many]),(10001,.row false 3 1 [I n])] (fun r o=>o=[(19999,.ext lp (Jof J0 JX (foundG n many stop))),(10000,.row false 3 1 [I many]),(10001,.row false 3 1 [I n])]):=by
 have F:=Fx.nil
 refine ent Tryd.func49 Tryd.ntmps49 Tryd.results49 ?_
 refine rK [1,2,3] ?_
 refine rK [1,2,3,4] ?_
 refine rK [4] ?_
 refine W.region ?_
 refine oN 1 ?_
 refine oCn [(10000,10000),(10001,24),(10002,10001),(10003,32),(19999,19999)] ?_
 refine ct (walk_nil n many stop lp J0 JX hn8 hm0 hy hm8 many (Nat.le_refl _)) ?_
 refine WOps.endK ?_
 refine en false [] [(19999,19999),(10000,10000),(10001,10001)] ?_
 rfl
theorem groups_ok (n many:Nat):ACalls Tryd.prog 34 [I n,I many] [] (fun r o=>r = .clo 49 [.ptr 20000 0 0,.ptr 20001 0 0]∧o=[(20000,.row false 3 1 [I many]),(20001,.row false 3 1 [I n])]):=by
 have F:=Fx.nil
 refine ent Tryd.func34 Tryd.ntmps34 Tryd.results34 ?_
 refine rK [2,3] ?_
 refine rK [4] ?_
 refine W.ret ?_
 exact er0 false [] [(20000,24),(20001,16)]
end Go.Sim.W6
