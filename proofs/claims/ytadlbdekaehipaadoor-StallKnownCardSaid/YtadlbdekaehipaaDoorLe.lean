/- The draw of a letting: arrays. -/
import Derived.Test.YtadlbdekaehipaaDoorLd
namespace Go.Sim
open Go.Proofs
set_option maxRecDepth 100000
set_option linter.unusedSimpArgs false
set_option linter.unusedVariables false
attribute [-simp] List.map_set List.map_take List.map_drop setSeg
def ordC (l:List Int) (m:Int):List AV:=l.map I++[I m]
theorem ordC_len {l:List Int}{m:Int}(h:l.length=8):(ordC l m).length=9:=by simp [ordC,h]
theorem ordC_8 {l:List Int}{m:Int}(h:l.length=8):(ordC l m)[8]?=some (I m):=by rw [ordC,List.getElem?_append_right (by simp [h])];simp [h]
theorem ordC_get {l:List Int}{m:Int}{i:Nat}(hi:i<l.length):(ordC l m)[i]?=some (I l[i]):=by rw [ordC,List.getElem?_append_left (by simpa using hi)];simp [hi]
theorem ordC_8' {l:List Int}{m:Int}(h:l.length=8) (h' : 8<(ordC l m).length):(ordC l m)[8]=I m:=by have:=ordC_8 (m:=m) h;rw [List.getElem?_eq_getElem h'] at this;simpa using this
theorem ordC_get' {l:List Int}{m:Int}{i:Nat}(hi:i<l.length) (h' : i<(ordC l m).length):(ordC l m)[i]=I l[i]:=by have:=ordC_get (m:=m) hi;rw [List.getElem?_eq_getElem h'] at this;simpa using this
attribute [local simp] ordC_8' ordC_get'
theorem ordC_all {l:List Int}{m:Int}(h:l.length=8):(ordC l m).take 9=ordC l m:=List.take_of_length_le (by simp [ordC,h])
theorem ordC_part {l:List Int}{m:Int}{k n:Nat}(h:l.length=8) (hk:k+n≤8):((ordC l m).drop k).take n=((l.drop k).take n).map I:=by
  rw [ordC,List.drop_append_of_le_length (by simp [h];omega),List.take_append_of_le_length (by simp [h];omega),List.map_take,List.map_drop]
theorem ordC_one {l:List Int}{m:Int}:(ordC l m).all AV.one=true:=by
  rw [List.all_eq_true]
  intro x hx
  rcases List.mem_append.1 hx with h | h
  · obtain ⟨v,_,rfl⟩:=List.mem_map.1 h;rfl
  · obtain rfl:=List.mem_singleton.1 h;rfl
theorem ordC_kill {l:List Int}{m:Int}(i:Nat):(ordC l m).map (AV.kill i)=ordC l m:=by
  conv=>rhs;rw [←List.map_id (ordC l m)]
  refine List.map_congr_left fun x hx=>?_
  rcases List.mem_append.1 hx with h | h
  · obtain ⟨v,_,rfl⟩:=List.mem_map.1 h;rfl
  · obtain rfl:=List.mem_singleton.1 h;rfl
theorem ordC_kill2 {l:List Int}{m:Int}(i j:Nat):(ordC l m).map (AV.kill i∘AV.kill j)=ordC l m:=by rw [←List.map_map,ordC_kill,ordC_kill]
theorem setSeg_nil' {l:List AV}{k:Nat}:setSeg l k []=l:=by simp [setSeg]
attribute [local simp] ordC_one ordC_kill ordC_kill2 setSeg_nil' ordC_len ordC_8 ordC_all
theorem ordC_m {l:List Int}{m v:Int}(h:l.length=8):setSeg (ordC l m) 8 [I v]=ordC l v:=by
  rw [setSeg,ordC,List.take_append_of_le_length (by simp [h]),List.take_of_length_le (by simp [h]),List.drop_of_length_le (by simp [h])];rfl
theorem ordC_seg {l:List Int}{m:Int}{k:Nat}{xs:List Int}(h:l.length=8) (hk:k+xs.length≤8):setSeg (ordC l m) k (xs.map I)=ordC (l.take k++(xs++l.drop (k+xs.length))) m:=by
  rw [setSeg,ordC,ordC,List.take_append_of_le_length (by simp [h];omega),List.length_map,List.drop_append_of_le_length (by simp [h];omega)]
  simp only [List.map_append,List.map_take,List.map_drop,List.append_assoc]
theorem ordC_set {l:List Int}{m v:Int}{k:Nat}(h:l.length=8) (hk:k<l.length):setSeg (ordC l m) k [I v]=ordC (l.set k v) m:=by
  have:=ordC_seg (l:=l) (m:=m) (k:=k) (xs:=[v]) h (by simp;omega)
  rw [show ([v].map I)=[I v] from rfl] at this
  rw [this,List.set_eq_take_append_cons_drop,if_pos hk]
  simp
theorem ordC_data {l:List Int}{m:Int}:AV.isDataL (ordC l m)=true:=by
  unfold ordC
  induction l with
  | nil=>rfl
  | cons x xs ih=>simpa [AV.isDataL,AV.isData] using ih
theorem ordC_ren {l:List Int}{m:Int}(ρ:Nat→Nat):AV.renL ρ (ordC l m)=ordC l m:=by
  unfold ordC
  induction l with
  | nil=>rfl
  | cons x xs ih=>simpa [AV.renL,AV.ren] using ih
theorem ordC_snap (st:St) (ps:List (Nat×Nat)){l:List Int}{m:Int}:st.snapL ps (ordC l m)=some (ordC l m,false):=by
  unfold ordC
  induction l with
  | nil=>simp [St.snapL,St.snap1]
  | cons x xs ih=>simp only [List.map_cons,List.cons_append,St.snapL,ih];simp [St.snap1]
attribute [local simp] ordC_ren ordC_snap
theorem setSeg_full {L xs:List AV}(h:xs.length=L.length):setSeg L 0 xs=xs:=by simp [setSeg,h]
attribute [local simp] ordC_m ordC_set ordC_data setSeg_full
set_option maxHeartbeats 4000000 in
theorem without_ok (l:List Int) (m k:Nat) (hl:l.length=8) (hm8:m≤8) (hk:k<m):ACalls Tryd.prog 33 [.agg (ordC l m),I k] [] (fun r o=>∃z:List Int,r = .agg (ordC z ((m:Int)-1))∧o=[]∧z.length=8∧z.take (m-1)=(l.take m).eraseIdx k):=by
 have F:=Fx.nil
 replace F:=F.add hl |>.add hm8 |>.add hk
 refine ent Tryd.func33 Tryd.ntmps33 Tryd.results33 ?_
 have hk1:k≤m:=by omega
 have hk2:¬k=m:=by omega
 have hk3:(0:Int)≤(k:Int)+1:=by omega
 have hk4:k+1≤m:=by omega
 have hk5:k≤9:=by omega
 have hk6:m≤9:=by omega
 replace F:=F.add hk1 |>.add hk2 |>.add hk3 |>.add hk4 |>.add hk5 |>.add hk6
 refine rK [1,2,4] ?_
 by_cases hlast:k+1=m
 ·
  replace F:=F.add hlast
  refine wD 11 [] [[],[],[],[2],[2,3,1,0],[],[],[6],[],[8],[8,9,6,7,5],[5,7,6,9,8,10,0,1,3,2,4]] ?_
  refine dBw [([6,7,8,10,11,12,13,14,15],[],[]),([5,7,8,10,11,12,13,14,15],[false],[]),([5,6,10,11,12,13,14,15],[false,false],[]),([5,6,10,11,12,13,14,15],[false,false,true],[]),([10,11,12,13,14,15],[true,true,true,true],[]),([5,6,7,8,9,11,12,13,14],[false,false,false,false,false],[]),([5,6,7,8,9,10,13,14],[false,false,false,false,false,false],[]),([5,6,7,8,9,10,13,14],[false,false,false,false,false,false,true],[]),([5,6,7,8,9,10,11,12],[false,false,false,false,false,false,false,false],[]),([5,6,7,8,9,10,11,12],[false,false,false,false,false,false,false,false,true],[]),([5,6,7,8,9],[false,false,false,false,false,true,true,true,true,true],[])] 0 11 ?_
  refine dD ?_
  refine oN 1 ?_
  refine oK [2,4] ?_
  refine rKw [2,4] ?_
  refine rK [4] ?_
  refine W.ret ?_
  refine er false [] [] ?_
  refine ⟨l,rfl,rfl,hl, ?_⟩
  rw [List.eraseIdx_eq_take_drop_succ,List.take_take,List.drop_of_length_le (by rw [List.length_take];omega),List.append_nil]
  congr 1;omega
 ·
  replace F:=F.add hlast
  obtain ⟨w,qw⟩:∃w,w=(l.drop (k+1)).take (m-(k+1)):=⟨_,rfl⟩
  have hw1:((ordC l m).drop (k+1)).take (m-(k+1))=w.map I:=by rw [ordC_part hl (by omega),qw]
  have hw2:w.length=m-(k+1):=by rw [qw,List.length_take,List.length_drop];omega
  have hw3:w.take (m-k)=w:=List.take_of_length_le (by omega)
  have hw4:min (m-k) (m-(k+1))=m-(k+1):=by omega
  have hw5:k+(m-(k+1))≤9:=by omega
  obtain ⟨z,qz⟩:∃z,z=l.take k++(w++l.drop (k+w.length)):=⟨_,rfl⟩
  have hw6:setSeg (ordC l m) k (w.map I)=ordC z m:=by rw [ordC_seg hl (by omega),qz]
  have hz8:z.length=8:=by rw [qz];simp only [List.length_append,List.length_take,List.length_drop];omega
  replace F:=F.add hw1 |>.add hw2 |>.add hw3 |>.add hw4 |>.add hw5 |>.add hw6 |>.add hz8
  refine wD 11 [] [[],[],[],[2],[2,3,1,0],[],[],[6],[],[8],[8,9,6,7,5],[5,7,6,9,8,10,0,1,3,2,4]] ?_
  refine dBw [([6,7,8,10,11,12,13,14,15],[],[]),([5,7,8,10,11,12,13,14,15],[false],[]),([5,6,10,11,12,13,14,15],[false,false],[]),([5,6,10,11,12,13,14,15],[false,false,true],[]),([10,11,12,13,14,15],[true,true,true,true],[]),([5,6,7,8,9,11,12,13,14],[false,false,false,false,false],[]),([5,6,7,8,9,10,13,14],[false,false,false,false,false,false],[]),([5,6,7,8,9,10,13,14],[false,false,false,false,false,false,true],[]),([5,6,7,8,9,10,11,12],[false,false,false,false,false,false,false,false],[]),([5,6,7,8,9,10,11,12],[false,false,false,false,false,false,false,false,true],[]),([5,6,7,8,9],[false,false,false,false,false,true,true,true,true,true],[])] 0 11 ?_
  refine dD ?_
  refine oN 1 ?_
  refine oK [2,4] ?_
  refine rKw [2,4] ?_
  refine rK [4] ?_
  refine W.ret ?_
  refine er false [] [] ?_
  refine ⟨z,rfl,rfl,hz8, ?_⟩
  rw [List.eraseIdx_eq_take_drop_succ,List.take_take,List.drop_take,qz,←List.append_assoc,List.take_append_of_le_length (by simp only [List.length_append,List.length_take];omega),List.take_of_length_le (by simp only [List.length_append,List.length_take];omega),←qw]
  congr 2;omega
end Go.Sim
