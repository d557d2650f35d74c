/- SwapRead. -/
import Derived.Test.YtholkejjmookfaaDoorIy
import Derived.Test.YtholkejjmookfaaDoorVl
namespace Go.Sim
open Go.Proofs W6
set_option maxRecDepth 100000
set_option linter.unusedSimpArgs false
set_option linter.unusedVariables false
attribute [-simp] List.map_set List.map_take List.map_drop
theorem itoa_one {n:Int}(h:0≤n∧n≤9):(Lib.itoa n).length≤1:=by
  have k:∀k:Nat,k<10→(Lib.itoa (k:Int)).length≤1:=by decide +kernel
  obtain ⟨m,rfl⟩:=Int.eq_ofNat_of_zero_le h.1
  exact k m (by omega)
theorem line_len {w:ByteArray}{l:List Int}(h:∀n∈l,0≤n∧n≤9):(lineB w l).length≤w.size+(l.length * 2+1):=by
  have h1:=numB_len (k:=1) (l:=l) fun x hx=>itoa_one (h x hx)
  have h3:w.data.toList.length=w.size:=Array.length_toList
  unfold lineB
  rw [List.length_append,List.length_append,h3]
  simp only [List.length_singleton]
  omega
theorem good_valid {ow:List Turn}{lk:List (List Turn)}(h:GoodTrade ow lk 8):ValidT ow lk:=⟨h.most,h.same,h.owns,fun l hl=>⟨(h.likes l hl).1,by have:=(h.likes l hl).2;have:=h.most;omega⟩⟩
theorem turns_nine {l:List Turn}(h:GoodTurns l):∀x∈l,(0≤x.1∧x.1≤9)∧(0≤x.2∧x.2≤9):=fun x hx=>by
  have:=h.2 x hx
  simp only [validT,Bool.and_eq_true,decide_eq_true_eq] at this
  omega
theorem pair_nine {x:Turn}(h:(0≤x.1∧x.1≤9)∧(0≤x.2∧x.2≤9)):∀n∈[x.1,x.2],0≤n∧n≤9:=fun n hn=>by
  simp only [List.mem_cons,List.not_mem_nil,or_false] at hn
  rcases hn with rfl | rfl
  · exact h.1
  · exact h.2
theorem good_len {ow:List Turn}{lk:List (List Turn)}(h:GoodTrade ow lk 8):(wrT ow lk).length≤3000:=by
  have ho8:ow.length≤8:=h.most
  have hT:∀p∈ow.zip lk,(tL p).length≤101:=fun p hp=>by
    obtain ⟨q1,q2⟩:=List.of_mem_zip hp
    have h1:=line_len (w:=trdW) (pair_nine (turns_nine h.owns p.1 q1))
    have h2:=flat_len (f:=kL) (k:=9) (l:=p.2) fun x hx=>by
      have:=line_len (w:=likW) (pair_nine (turns_nine (h.likes p.2 q2).1 x hx))
      exact this
    have h3:=(h.likes p.2 q2).2
    have h1' : (lineB trdW [p.1.1,p.1.2]).length≤11:=h1
    unfold tL
    rw [List.length_append]
    omega
  have h1:=flat_len hT
  have h2:(ow.zip lk).length≤8:=by rw [List.length_zip];omega
  have h3:=line_len (w:=endW) (l:=[(ow.length:Int)]) (by intro n hn;simp at hn;omega)
  have h3' : (lineB endW [(ow.length:Int)]).length≤6:=h3
  unfold wrT
  rw [List.length_append]
  omega
theorem Write_g (ob:Lb){ow:List Turn}{lk:List (List Turn)}(h:GoodTrade ow lk 8):ACalls Tryd.prog 7 [trade ow lk] [(10900,tabO ob)] (fun r o=>r = .tup [txtA (wrT ow lk),I 0]∧o=[(10900,tabO ob)]):=by
  have k:=Write_ok ob ow lk
  have hc:=checkT_zero.2 (good_valid h)
  rw [wrTX,if_pos hc,hc] at k
  exact k
theorem Read_g (ob:Lb){ow:List Turn}{lk:List (List Turn)}(h:GoodTrade ow lk 8):ACalls Tryd.prog 8 [txtA (wrT ow lk)] [(10900,tabO ob)] (fun r o=>r = .tup [trade ow lk,I 0,I 0]∧o=[(10900,tabO ob)]):=by
  have k:=Read_ok ob (wrT ow lk)
  rw [rd6_wr (good_valid h) (fun x hx=>by
    rcases hx with hx | ⟨l,hl,hx⟩
    · exact turns_nine h.owns x hx
    · exact turns_nine (h.likes l hl).1 x hx) (good_len h)] at k
  exact k
theorem Read_p (ob:Lb){text:List UInt8}{xo:List Turn}{xl:List (List Turn)}{xr xe:Int}(h:rd6 text=(xo,xl,xr,xe)):ACalls Tryd.prog 8 [txtA text] [(10900,tabO ob)] (fun r o=>r = .tup [trade xo xl,I xr,I xe]∧o=[(10900,tabO ob)]):=by
  have k:=Read_ok ob text
  rw [h] at k
  exact k
theorem Write_p (ob:Lb){text:List UInt8}{xo:List Turn}{xl:List (List Turn)}{xr:Int}(h:rd6 text=(xo,xl,xr,0)):ACalls Tryd.prog 7 [trade xo xl] [(10900,tabO ob)] (fun r o=>r = .tup [txtA text,I 0]∧o=[(10900,tabO ob)]):=by
  have k:=Write_ok ob xo xl
  have q:=rd6_ok (text:=text) (by rw [h])
  rw [h] at q
  obtain ⟨q1,q2,_⟩:=q
  simp only at q1 q2
  rw [wrTX,if_pos q1,q1,q2] at k
  exact k
theorem rd6_no {text:List UInt8}{xo:List Turn}{xl:List (List Turn)}{xr xe:Int}(h:rd6 text=(xo,xl,xr,xe)) (he:xe≠0):xo=[]∧xl=[]:=by
  have:=rd6_err (text:=text) (by rw [h];exact he)
  rw [h] at this
  exact this
end Go.Sim
