/- The draw of a letting. -/
import Derived.Test.YtadlbdekaehipaaDoorLe
namespace Go.Sim
open Go.Proofs
set_option maxRecDepth 100000
set_option linter.unusedSimpArgs false
set_option linter.unusedVariables false
attribute [-simp] List.map_set List.map_take List.map_drop setSeg
attribute [local simp] ordC_8' ordC_get' ordC_one ordC_kill ordC_kill2 setSeg_nil' ordC_len ordC_8 ordC_all ordC_m ordC_set ordC_data ordC_ren ordC_snap setSeg_full
def tokS:List App→Nat
  | []=>0
  | a :: r=>a.token.toNat+tokS r
theorem tokS_app:∀(l r:List App),tokS (l++r)=tokS l+tokS r
  | [],r=>by simp [tokS]
  | a :: l,r=>by simp only [List.cons_append,tokS,tokS_app l r];omega
theorem tokS_succ {l:List App}{i:Nat}(h:i<l.length):tokS (l.take (i+1))=tokS (l.take i)+l[i].token.toNat:=by
  rw [List.take_succ_eq_append_getElem h,tokS_app];simp [tokS]
theorem tokS_le:∀ {l:List App},(∀a∈l,a.token≤1000000000)→tokS l≤1000000000 * l.length
  | [],_=>by simp [tokS]
  | a :: l,h=>by
    have h1:=h a (by simp)
    have h2:=tokS_le (l:=l) fun b hb=>h b (by simp [hb])
    simp only [tokS,List.length_cons];omega
def idsI (n:Nat):List Int:=(List.range n).map Int.ofNat
theorem idsI_succ (n:Nat):idsI (n+1)=idsI n++[(n:Int)]:=by simp [idsI,List.range_succ]
theorem idsI_len (n:Nat):(idsI n).length=n:=by simp [idsI]
def drawG:Nat→Nat→List Int→List Int
  | 0,_,_=>[]
  | n+1,t,r=>nth r (t % r.length) :: drawG n (t / r.length) (r.eraseIdx (t % r.length))
def drawL (l:List App):List Int:=drawG l.length (tokS l) (idsI l.length)
theorem drawG_step {m t:Nat}{l:List Int}(h:0<m) (hl:m≤l.length) (hq:t % m<l.length){z:List Int}(hz:z.take (m-1)=(l.take m).eraseIdx (t % m)):drawG m t (l.take m)=l[t % m] :: drawG (m-1) (t / m) (z.take (m-1)):=by
  obtain ⟨n,rfl⟩:∃n,m=n+1:=⟨m-1,by omega⟩
  have h1:(l.take (n+1)).length=n+1:=by rw [List.length_take];omega
  have h2:t % (n+1)<n+1:=Nat.mod_lt _ (by omega)
  have h3:nth (l.take (n+1)) (t % (n+1))=l[t % (n+1)]:=by rw [nth_get (by rw [h1];exact h2),List.getElem_take]
  rw [drawG,h1,h3,hz];rfl
set_option maxHeartbeats 4000000 in
theorem draw_ok (l:Lett) (hv:ValidL l):ACalls Tryd.prog 18 [letV l] [] (fun r o=>r = .own 20000 0 (drawL l.apps).length∧o=[(20000,.row true 3 1 ((drawL l.apps).map I))]):=by
 have F:=Fx.nil
 refine ent Tryd.func18 Tryd.ntmps18 Tryd.results18 ?_
 have h8:=hv.a8
 have hmx:∀a∈l.apps,a.token≤1000000000:=fun a ha=>(hv.ap a ha).token.2
 have hto:=tokS_le hmx
 replace F:=F.add h8 |>.add hmx |>.add hto
 refine rK [1] ?_
 refine rK [1,3] ?_
 refine rK [1,3,4] ?_
 refine W.seqk fun K1 hK1=>?_
 refine rK [3,4,14,15,16] ?_
 refine W.block ?_
 refine lp (α:=Nat×List Int) [3,14,15] [6] [24] (fun x=>[(16,I x.1),(4,I (tokS (l.apps.take x.1)))]) (fun x=>[(24,.row false 83 9 [.agg (ordC x.2 l.apps.length)])]) (fun x=>x.1≤l.apps.length∧x.2.length=8∧x.2.take x.1=idsI x.1) (fun x=>l.apps.length-x.1) (0,List.replicate 8 0) ?_ ?_ ?_ ?_
 ·
  try (simp [Fx.get F])
  all_goals (
   simp [tokS]
  )
 ·
  try (simp [Fx.get F])
  all_goals (
   rfl
  )
 ·
  exact ⟨Nat.zero_le _,rfl,rfl⟩
 ·
  intro ⟨i,z⟩ hI0
  simp only [List.cons_append,List.nil_append]
  try dsimp only at hI0
  obtain ⟨hi,hz8,hzt⟩:=hI0
  replace F:=F.add hi |>.add hz8
  refine rK [3,4,14,15,16,17] ?_
  refine W.seqk fun K2 hK2=>?_
  refine it (fun hc1=>?_) (fun hc1=>?_)
  ·
   try simp at hc1
   replace F:=F.add hc1
   refine W.skip ?_
   refine hK2 _ ?_
   clear hK2 K2
   refine W.seqk fun K3 hK3=>?_
   refine W.block ?_
   have hil:i<l.apps.length:=by omega
   have hi8:(i:Int)<8:=by omega
   have hi8n:i<8:=by omega
   have hi9:i<9:=by omega
   have hi8l:i≤8:=by omega
   have qtk:=tokS_le (l:=l.apps.take (i+1)) (fun a ha=>hmx a (List.mem_of_mem_take ha))
   have qt0:=(hv.ap _ (List.getElem_mem hil)).token
   rw [tokS_succ hil,List.length_take] at qtk
   replace F:=F.add hil |>.add hi8 |>.add hi8n |>.add hi9 |>.add hi8l
   refine rK [3,4,5,6,14,15,16] ?_
   refine rK [3,4,6,14,15,16] ?_
   refine rEw ?_
   refine hK3 _ ?_
   clear hK3 K3
   refine rEw ?_
   refine ⟨(i+1,z.set i i),lf ?_ ?_, ?_,v0⟩
   ·
    try (simp [Fx.get F])
    all_goals (
     rw [tokS_succ hil];omega
    )
   ·
    exact v1
   ·
    refine ⟨by show i+1≤_;omega,by simpa using hz8, ?_⟩
    show (z.set i (i:Int)).take (i+1)=idsI (i+1)
    rw [List.take_succ_eq_append_getElem (by simpa [hz8] using hi8n),List.take_set,List.set_eq_of_length_le (by rw [List.length_take];omega),hzt,idsI_succ,List.getElem_set_self]
  ·
   try simp at hc1
   replace F:=F.add hc1
   refine W.exit ?_
   refine hK1 _ ?_
   clear hK2 K2 hK1 K1
   refine rK [3,4,7] ?_
   refine W.seqk fun K4 hK4=>?_
   refine W.block ?_
   have hdr:drawL l.apps=drawG l.apps.length (tokS l.apps) (z.take l.apps.length):=by
     have h:=hzt
     rw [show i=l.apps.length by omega] at h
     rw [drawL,h]
   have htk:tokS (l.apps.take i)=tokS l.apps:=by rw [List.take_of_length_le (by omega)]
   replace F:=F.add hdr |>.add htk
   refine sn 7 9000 3 1 ?_
   refine lp (α:=Nat×List Int×Nat×List Int) [3] [46,47,50] [24,9000] (fun x=>[(4,I x.1),(7,.own 9000 0 x.2.2.2.length)]) (fun x=>[(24,.row false 83 9 [.agg (ordC x.2.1 x.2.2.1)]),(9000,.row true 3 1 (x.2.2.2.map I))]) (fun x=>x.2.1.length=8∧x.2.2.1≤8∧drawL l.apps=x.2.2.2++drawG x.2.2.1 x.1 (x.2.1.take x.2.2.1)∧x.2.2.2.length+x.2.2.1≤8∧x.1≤8000000000) (fun x=>x.2.2.1) (tokS l.apps,z,l.apps.length,[]) ?_ ?_ ?_ ?_
   ·
    try (simp [Fx.get F])
    all_goals (
     simp [tokS]
    )
   ·
    exact v1
   ·
    exact ⟨hz8,h8,by simpa using hdr,by show 0+l.apps.length≤8;omega,by show tokS l.apps≤8000000000;omega⟩
   ·
    intro ⟨t,z,m,u⟩ hI1
    simp only [List.cons_append,List.nil_append]
    try dsimp only at hI1
    obtain ⟨hz8,hm8,hdr,hul,ht9⟩:=hI1
    replace F:=F.add hz8 |>.add hm8 |>.add hul |>.add ht9
    refine W.seqk fun K5 hK5=>?_
    refine rK [3,4,7,32] ?_
    refine it (fun hc2=>?_) (fun hc2=>?_)
    ·
     try simp at hc2
     replace F:=F.add hc2
     refine W.skip ?_
     refine hK5 _ ?_
     clear hK5 K5
     refine W.block ?_
     have hm0:0<m:=by omega
     have hmz:¬m=0:=by omega
     have hmz2:¬(m:Int)=0:=by omega
     obtain ⟨q,qq⟩:∃q,q=t % m:=⟨_,rfl⟩
     obtain ⟨t2,qt2⟩:∃t2,t2=t / m:=⟨_,rfl⟩
     have hmod:Int.tmod (t:Int) (m:Int)=(q:Int):=by rw [qq];rfl
     have hdiv:Int.tdiv (t:Int) (m:Int)=(t2:Int):=by rw [qt2];rfl
     have hq8:(q:Int)<8:=by have:=Nat.mod_lt t hm0;omega
     have hq8n:q<8:=by have:=Nat.mod_lt t hm0;omega
     have hq9:q<9:=by omega
     have ht2:t2≤8000000000:=by have:=Nat.div_le_self t m;omega
     have hqm:q<m:=by have:=Nat.mod_lt t hm0;omega
     replace F:=F.add hm0 |>.add hmz |>.add hmz2 |>.add hmod |>.add hdiv |>.add hq8 |>.add hq8n |>.add hq9 |>.add ht2 |>.add hqm
     refine rK [3,4,7,8] ?_
     refine rKw [3,4,7,8] ?_
     refine rKw [3,4,7,8] ?_
     refine W.region ?_
     refine oN 2 ?_
     refine oC [] ?_
     refine CallT.mkE (without_ok z m q hz8 hm8 hqm) (fun z50 hz50=>⟨(by simp [h8,hmx,hto,hi,hz8,hc1,hdr,htk,hz8,hm8,hul,ht9,hc2,hm0,hmz,hmz2,hmod,hdiv,hq8,hq8n,hq9,ht2,hqm]), ?_⟩)
     obtain ⟨q1,q2⟩:=hz50
     have hzl:z50.length=8:=q1
     have hmc:(m:Int)-1=((m-1:Nat):Int):=by omega
     replace F:=F.add hzl |>.add hmc
     refine WOps.norm (by simp [h8,hmx,hto,hi,hz8,hc1,hdr,htk,hz8,hm8,hul,ht9,hc2,hm0,hmz,hmz2,hmod,hdiv,hq8,hq8n,hq9,ht2,hqm,hzl,hmc];rfl) ?_
     refine oN 1 ?_
     refine WOps.endK ?_
     refine bn ?_
     refine ⟨(t2,z50,m-1,u++[z[q]]),lf0, ?_,v0⟩
     ·
      subst qq
      subst qt2
      have e:=drawG_step (t:=t) hm0 (by omega) (by omega) q2
      refine ⟨hzl,by show m-1≤8;omega, ?_,by show (u++[z[t % m]]).length+(m-1)≤8;simp;omega,ht2⟩
      show drawL l.apps=(u++[z[t % m]])++drawG (m-1) (t / m) (z50.take (m-1))
      rw [hdr,e];simp
    ·
     try simp at hc2
     replace F:=F.add hc2
     refine W.exit ?_
     refine hK4 _ ?_
     clear hK5 K5 hK4 K4
     refine rK [2] ?_
     refine W.ret ?_
     refine er false [] [(20000,9000)] ?_
     have e:drawL l.apps=u:=by rw [hdr,hc2];simp [drawG]
     rw [e];exact ⟨rfl,rfl⟩
theorem draw_imm (l:Lett) (hv:ValidL l):ACalls Tryd.prog 18 [letV l] [] (fun r o=>r=ints (drawL l.apps)∧o=[]):=ACalls.frzs [20000] (draw_ok l hv) (by simp;rfl) (by simp;rfl)
end Go.Sim
