/- Orders that follow from a list of numbers; benches with other results. -/
import Derived.Test.YtojjfnhjmfokhaaLr
import Derived.Test.YtojjfnhjmfokhaaQo
namespace Go.Sim
open Go.Proofs
set_option maxRecDepth 100000
set_option linter.unusedSimpArgs false
set_option linter.unusedVariables false
attribute [-simp] List.map_set List.map_take List.map_drop
attribute [simp] spn_eta
noncomputable def shuS (f:Int) (n:Nat):Nat→List Int×Int
  | 0=>(List.replicate n 0,f)
  | i + 1=>(((shuS f n i).1.set i (nth (shuS f n i).1 (castV (shuS f n i).2 ((i:Int) + 1)).toNat)).set (castV (shuS f n i).2 ((i:Int) + 1)).toNat (i:Int),castF (shuS f n i).2 ((i:Int) + 1))
noncomputable def shuL (f:Int) (n:Nat):List Int:=(shuS f n n).1
noncomputable def shuF (f:Int) (n:Nat):Int:=(shuS f n n).2
theorem shuS_len (f:Int) (n:Nat):∀ i,(shuS f n i).1.length=n
  | 0=>by simp [shuS]
  | i + 1=>by
    show (List.set (List.set _ _ _) _ _).length=n
    rw [List.length_set,List.length_set]; exact shuS_len f n i
theorem shuS_order (f:Int) (n:Nat):∀ i,i≤n→Order ((shuS f n i).1.take i) i
  | 0,_=>by simp [Order]
  | i + 1,hi=>by
    have h:=shuS_order f n i (by omega)
    have hl:=shuS_len f n i
    have h1:=castV_lo (shuS f n i).2 ((i:Int) + 1)
    have h2:=castV_hi (shuS f n i).2 ((i:Int) + 1) (by omega)
    have hk:(castV (shuS f n i).2 ((i:Int) + 1)).toNat < (shuS f n i).1.length:=by omega
    have:=order_step h (show i < (shuS f n i).1.length by omega) (k:=(castV (shuS f n i).2 ((i:Int) + 1)).toNat) (by omega) hk
    show Order (List.take (i + 1) (((shuS f n i).1.set i (nth (shuS f n i).1 (castV (shuS f n i).2 ((i:Int) + 1)).toNat)).set (castV (shuS f n i).2 ((i:Int) + 1)).toNat (i:Int))) (i + 1)
    rw [nth_get hk]; exact this
theorem shuL_order (f:Int) (n:Nat):Order (shuL f n) n:=by
  have h:=shuS_order f n n (Nat.le_refl _)
  rwa [List.take_of_length_le (by rw [shuS_len]; omega)] at h
theorem shuL_len (f:Int) (n:Nat):(shuL f n).length=n:=shuS_len f n n
theorem shuL_mem {f:Int} {n:Nat} {x:Int} (h:x∈shuL f n):0≤x∧x < n:=(shuL_order f n).mem h
theorem shuL_all {f:Int} {n i:Nat} (h:i < n):(i:Int)∈shuL f n:=(List.Perm.mem_iff (shuL_order f n)).2 (List.mem_map.2 ⟨i,List.mem_range.2 h,rfl⟩)
set_option maxHeartbeats 4000000 in
theorem Shuffle_own (f:Int) (n:Nat) (hn:n≤1000000):ACalls Try.prog 48 [.ptr 10000 0 0,I n] [(10000,die f)] (fun r o=>r = .own 20000 0 n∧o=[(10000,die (shuF f n)),(20000,.row true 3 1 ((shuL f n).map I))]):=by
 have F:=Fx.nil
 refine ent Try.func48 Try.ntmps48 Try.results48 ?_
 obtain ⟨U,qU⟩:∃ U:Nat→List Int,U=fun i=>(shuS f n i).1:=⟨_,rfl⟩
 obtain ⟨G,qG⟩:∃ G:Nat→Int,G=fun i=>(shuS f n i).2:=⟨_,rfl⟩
 have hU0:(U 0).map I=List.replicate n (I 0):=by rw [qU]; simp [shuS]
 have hG0:G 0=f:=by rw [qG]; rfl
 have hUl:∀ i,(U i).length=n:=fun i=>by rw [qU]; exact shuS_len f n i
 replace F:=F.add hU0 |>.add hG0 |>.add hUl
 refine rK [0,1] ?_
 have hmx:(if 0 < n then (n:Int) else 0)=n:=by split <;> omega
 have h16:(n:Int)≤16777216:=by omega
 have hn0:(0:Int)≤n:=by omega
 replace F:=F.add hmx |>.add h16 |>.add hn0
 refine rK [0,5] ?_
 refine W.seqk fun K1 hK1=>?_
 refine rK [0,5,6] ?_
 refine W.block ?_
 refine lpa (α:=Nat) [0] [13,20] [10000,80] (fun i=>[(5,.own 80 0 n),(6,I i)]) (fun i=>[(10000,die (G i)),(80,.row true 3 1 ((U i).map I))]) (fun i=>i≤n) (fun i=>n - i) 0 v0 ?_
 ·
  intro i hI0
  simp only [List.cons_append,List.nil_append]
  try dsimp only at hI0
  replace F:=F.add hI0
  refine W.seqk fun K2 hK2=>?_
  refine rK [0,5,6,14] ?_
  refine it (fun hc1=>?_) (fun hc1=>?_)
  ·
   try simp at hc1
   replace F:=F.add hc1
   refine W.skip ?_
   refine hK2 _ ?_
   clear hK2 K2
   refine W.seqk fun K3 hK3=>?_
   refine W.block ?_
   obtain ⟨g,qg⟩:∃ g,G i=g:=⟨_,rfl⟩
   have hgi:=qg
   have qc0:0≤castV g ((i:Int) + 1):=castV_lo _ _
   have qc9:castV g ((i:Int) + 1) < (i:Int) + 1:=castV_hi _ _ (by omega)
   obtain ⟨k,qk⟩:∃ k:Nat,castV g ((i:Int) + 1)=k:=⟨(castV g ((i:Int) + 1)).toNat,by omega⟩
   have hkv:=qk
   have hkn:k < n:=by omega
   have hin:i < n:=by omega
   have hUi:=hUl i
   have hkl:k < (U i).length:=by omega
   have hnext:U (i + 1)=((U i).set i (U i)[k]).set k (i:Int):=by
     have e:(shuS f n i).2=g:=by rw [← qg,qG]
     have e2:(shuS f n i).1=U i:=by rw [qU]
     have e3:(shuS f n (i + 1)).1=U (i + 1):=by rw [qU]
     rw [← e3]
     show ((shuS f n i).1.set i (nth (shuS f n i).1 (castV (shuS f n i).2 ((i:Int) + 1)).toNat)).set (castV (shuS f n i).2 ((i:Int) + 1)).toNat (i:Int)=_
     rw [e,e2,qk,Int.toNat_natCast,nth_get hkl]
   have hGn:G (i + 1)=castF g ((i:Int) + 1):=by
     rw [qG]
     show castF (shuS f n i).2 ((i:Int) + 1)=_
     have e:(shuS f n i).2=g:=by rw [← qg,qG]
     rw [e]
   replace F:=F.add hgi |>.add hkv |>.add hkn |>.add hin |>.add hUi |>.add hkl |>.add hnext |>.add hGn
   refine W.seqR ?_
   refine oNw 3 ?_
   refine oC [(10000,10000)] ?_
   refine ct (Cast_ok _ _ (by omega)) ?_
   refine oN 1 ?_
   refine oK [0,5,6,7] ?_
   refine rK [0,5,6,7] ?_
   refine rE ?_
   refine hK3 _ ?_
   clear hK3 K3
   refine rEw ?_
   refine ⟨i + 1,lf0,v0,v0⟩
  ·
   try simp at hc1
   replace F:=F.add hc1
   refine W.exit ?_
   refine hK1 _ ?_
   clear hK2 K2 hK1 K1
   refine rK [4] ?_
   refine W.ret ?_
   refine er false [] [(10000,10000),(20000,80)] ?_
   obtain rfl:i=n:=by omega
   exact ⟨rfl,by rw [qG,qU]; rfl⟩
theorem Shuffle_imm (f:Int) (n:Nat) (hn:n≤1000000):ACalls Try.prog 48 [.ptr 10000 0 0,I n] [(10000,die f)] (fun r o=>r=ints (shuL f n)∧o=[(10000,die (shuF f n))]):=ACalls.frzs [20000] (Shuffle_own f n hn) (by simp; rfl) (by have h:List.take n (shuL f n)=shuL f n:=List.take_of_length_le (by rw [shuL_len]; omega); simp [h,shuL_len]; rfl)
end Go.Sim
