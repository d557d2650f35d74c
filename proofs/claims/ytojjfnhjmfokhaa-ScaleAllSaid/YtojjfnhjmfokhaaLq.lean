/- Benches made of numbers: the walk. -/
import Derived.Test.YtojjfnhjmfokhaaLp
namespace Go.Sim
open Go.Proofs
set_option maxRecDepth 100000
set_option linter.unusedSimpArgs false
set_option linter.unusedVariables false
attribute [-simp] List.map_set List.map_take List.map_drop
attribute [simp] spn_eta
theorem bring_ne {a r n:Int}(ha:0≤a∧a<n) (hr:1≤r∧r≤n-1):(0≤bring (a+r) n∧bring (a+r) n<n)∧bring (a+r) n≠a:=by
  have hn:¬n<2:=by omega
  have e:(a+r).tmod n=if a+r<n then a+r else a+r-n:=by
    rw [Int.tmod_eq_emod_of_nonneg (by omega)]
    split
    · exact Int.emod_eq_of_lt (by omega) (by omega)
    · rw [show a+r=(a+r-n)+n by omega,Int.add_emod_right,Int.emod_eq_of_lt (by omega) (by omega)];omega
  unfold bring
  rw [if_neg hn,e]
  split<;>split<;>omega
theorem Side.right {α β:Type} [NthD α] [NthD β] {R:α→β→Prop}{l:List α}{m:List β}(h:Side R l m){y:β}(hy:y∈m):∃x∈l,R x y:=by
  obtain ⟨i,hi,rfl⟩:=List.getElem_of_mem hy
  have hil:i<l.length:=by have:=h.1;omega
  have:=h.2 i hil
  rw [nth_get hil,nth_get hi] at this
  exact ⟨_,List.getElem_mem hil,this⟩
theorem Side.left {α β:Type} [NthD α] [NthD β] {R:α→β→Prop}{l:List α}{m:List β}(h:Side R l m){x:α}(hx:x∈l):∃y∈m,R x y:=by
  obtain ⟨i,hi,rfl⟩:=List.getElem_of_mem hx
  have hil:i<m.length:=by have:=h.1;omega
  have:=h.2 i hi
  rw [nth_get hil,nth_get hi] at this
  exact ⟨_,List.getElem_mem hil,this⟩
theorem made_fin {ms:List Mas}{os:List Int}{ss:List Scl}{es:List (List Int)}{ws:List Wei}{ts:List Tri}{m sn dn p q r d:Nat}(kms:Side MasF ms os) (kss:Side (SclF dn) ss es) (kws:∀w∈ws,WeiS m w) (kts:∀t∈ts,TriS sn m dn t)
    (hm:ms.length=m) (hs:ss.length=sn) (h1:1≤m∧m≤p∧p≤5) (h2:1≤sn∧sn≤q∧q≤3) (h3:ws.length≤r∧ts.length≤r∧r≤6) (h4:dn≤d∧d≤8):MadeB ⟨ms,ws,ss,ts,dn⟩ p q r d∧FacOk ⟨ms,ws,ss,ts,dn⟩ ⟨os,es⟩:=by
  subst hm;subst hs
  refine ⟨⟨⟨h1.1,by show ms.length≤5;omega,fun x hx=>?_,by show ws.length≤6;omega,fun w hw=>?_,h2.1,by show ss.length≤3;omega,fun x hx=>?_,by show (0:Int)≤dn∧(dn:Int)≤8;omega,by show ts.length≤6;omega,fun t ht=>?_⟩,h1.2.1,h2.2.1,h3.1,h3.2.1,by show (dn:Int)≤d;omega,fun x hx=>?_,fun x hx=>?_⟩,kms,by simpa using kss⟩
  · obtain ⟨n,_,k⟩:=kms.left hx
    have:=k.nom;have:=k.off
    exact ⟨by omega,by omega,by omega,by omega⟩
  · have k:=kws w hw
    exact ⟨k.a,k.b,k.ne,by have:=k.dif;omega,by have:=k.dif;omega,by have:=k.dif;omega⟩
  · obtain ⟨n,_,k⟩:=kss.left hx
    have:=k.ok.fst;have:=k.ok.dri
    exact ⟨⟨by omega,by omega,by omega⟩,by omega,by omega,by omega⟩
  · have k:=kts t ht
    exact ⟨k.sc,k.ms,k.day,by have:=k.sh;omega⟩
  · obtain ⟨n,_,k⟩:=kms.left hx
    have:=k.off;omega
  · obtain ⟨n,_,k⟩:=kss.left hx
    exact k.ok
theorem hold_made {b:Ben}{f:Fac}(hv:ValidB b) (hF:FacOk b f):ACalls Try.prog 63 [benV b,facV f] [] (fun r o=>r=B (holdB b f)∧o=[]):=by
  have ho:=hF.offs.1
  have he:=hF.errs.1
  refine Holding_ok b f (fun w hw=>?_) (fun t ht=>?_) (fun n hn=>?_) (fun l hl n hn=>?_) (fun m hm=>?_) ?_
  · have k:=hv.wei w hw
    omega
  · have k:=hv.tri t ht
    have hil:t.sc.toNat<b.scl.length:=by omega
    have hrow:=(hF.errs.2 _ hil).row.len
    have hd:=hv.days
    omega
  · obtain ⟨m,_,k⟩:=hF.offs.right hn
    have:=k.off;have:=k.at_;omega
  · obtain ⟨s,_,k⟩:=hF.errs.right hl
    obtain ⟨i,hi,rfl⟩:=List.getElem_of_mem hn
    have hl:=k.row.len
    have hb:=RowF.bd k.ok k.row i (by omega)
    rw [nth_get hi] at hb
    have hd:=hv.days
    omega
  · have:=(hv.mas m hm).1;omega
  · have h1:=hv.w6;have h2:=hv.t6;omega
theorem mem_snoc {α:Type}{P:α→Prop}{l:List α}{x:α}(h:∀y∈l,P y) (hx:P x):∀y∈l++[x],P y:=fun y hy=>by
  rcases List.mem_append.1 hy with k | k
  · exact h y k
  · rw [List.mem_singleton.1 k];exact hx
theorem weiS_mk {m a c:Nat}{df k1 k2:Int}(ha:a<m) (hc:c<m) (hne:(c:Int)≠a) (h1 : -40≤df∧df≤40) (h2:0≤k1∧k1≤3) (h3:0≤k2∧k2≤3):WeiS m ⟨a,c,⟨df-k1,df+k2⟩⟩:=
  ⟨⟨by dsimp only;omega,by dsimp only;omega⟩,⟨by dsimp only;omega,by dsimp only;omega⟩,fun h=>hne h.symm,by dsimp only;omega,by dsimp only;omega,by dsimp only;omega⟩
theorem triS_mk {sn m dn sc dy mi:Nat}{sh:Int}(h1:sc<sn) (h2:dy≤dn) (h3:mi<m) (h4:0≤sh∧sh≤1900):TriS sn m dn ⟨sc,dy,mi,sh⟩∧(⟨sc,dy,mi,sh⟩:Tri).sh≤1900:=
  ⟨⟨⟨by dsimp only;omega,by dsimp only;omega⟩,⟨by dsimp only;omega,by dsimp only;omega⟩,⟨by dsimp only;omega,by dsimp only;omega⟩,by dsimp only;omega,by dsimp only;omega⟩,h4.2⟩
end Go.Sim
