/- The roll of a letting, as it is written. -/
import Derived.Test.YtadlbdekaehipaaDoorIe
import Derived.Test.YtadlbdekaehipaaDoorIv
import Derived.Test.YtadlbdekaehipaaDoorLc
import Derived.Shelf.Strings.OnBuilder
namespace Go.Sim
open Go.Proofs Go.Shelf
set_option maxRecDepth 100000
set_option linter.unusedSimpArgs false
set_option linter.unusedVariables false
attribute [-simp] List.map_set List.map_take List.map_drop
/-! ### joined strings -/
def joinS (xs:List ByteArray) (sep:ByteArray):ByteArray:=⟨(Lib.join (xs.map (·.data.toList)) sep.data.toList).toArray⟩
theorem Join_ok (xs : List ByteArray) (sep : ByteArray) (hne : xs ≠ []) (hlen : (Lib.join (xs.map (·.data.toList)) sep.data.toList).length ≤ 140737488355328) (hN : xs.length ≤ 140737488355328) :
    ACalls Tryd.prog 40 [.imm (xs.map strA),.val (.string sep)] [] (fun r o=>r = .val (.string (joinS xs sep))∧o=[]):=by
  refine ⟨⟨_,Tryd.func40,by kernel_rfl,by kernel_rfl⟩,fun w e vals hs hl hv=>?_⟩
  obtain ⟨p,q,rfl⟩:=two_vals hl
  have hq:q = .string sep:=(hv 1 (.val (.string sep)) q rfl rfl).val_inv
  subst hq
  have hp:=hv 0 _ p rfl rfl
  have key:∃b off cap,p = .slice (some ⟨b,off,none⟩) xs.length cap∧xs.length≤cap∧∀(j:Nat) x,xs[j]?=some x→w.cell? ⟨b,off+j,none⟩=some (.string x):=by
    generalize hL:xs.map strA=L at hp
    cases hp with
    | data h =>
      cases h with
      | imm0 a cap=>exact absurd (List.map_eq_nil_iff.1 hL) hne
      | imm _ b off cap sz vals' hne' hz hqq hlen' hcap hsz hc hr =>
        subst hL
        have h1:sz=1:=by
          obtain ⟨x,r,rfl⟩:=List.exists_cons_of_ne_nil hne
          have:=hsz (strA x) (by simp)
          simpa [AV.cells] using this.symm
        subst h1
        rw [List.length_map] at hcap
        refine ⟨b,off,cap,by rw [List.length_map],hcap,fun j x hx=>?_⟩
        have hx2:(xs.map strA)[j]?=some (strA x):=by rw [List.getElem?_map,hx];rfl
        obtain ⟨k1,_⟩:=hc j _ hx2 0 _ rfl
        have k2:=hr j _ hx2 0 _ rfl
        have k3:vals' j 0 = .string x:=k2.val_inv
        rw [k3] at k1
        simpa using k1
  obtain ⟨b,off,cap,rfl,hcap,hcells⟩:=key
  have hb:b<w.heap.size:=by
    obtain ⟨x,r,rfl⟩:=List.exists_cons_of_ne_nil hne
    have h0:=hcells 0 x rfl
    rcases Nat.lt_or_ge b w.heap.size with h | h
    · exact h
    · simp [World.cell?,Array.getElem?_eq_none h] at h0
  refine (Any.strings_Join Tryd.lays156 Tryd.Builder_Extra_156 b off cap xs sep w hcells hb hN hcap hlen).mono ?_
  rintro en w' ⟨rfl,hB⟩
  obtain ⟨a1,a2⟩:=hs.grown (w':=w') hB.size (fun k hk=>hB.block k hk) hB.os hB.tape hB.output
  exact ⟨_,_,_,e,rfl,⟨rfl,rfl⟩,a1,a2,.data (.val _)⟩
def jl (xs:List ByteArray):List UInt8:=Lib.join (xs.map (·.data.toList)) [32]++[10]
theorem jl_len {xs : List ByteArray} (hn : xs.length ≤ 4) (h : ∀ x ∈ xs, x.size ≤ 24) : (jl xs).length ≤ 120 := by
  unfold jl
  rw [List.length_append]
  cases xs with
  | nil=>simp [Lib.join_nil]
  | cons x r =>
    rw [List.map_cons,Lib.join_length]
    have key:∀l:List ByteArray,(∀y∈l,y.size≤24)→Lib.lens (l.map (·.data.toList))≤l.length * 24:=by
      intro l hl
      induction l with
      | nil=>simp [Lib.lens]
      | cons y l ih =>
        have h1:=hl y (List.mem_cons_self ..)
        have h2:=ih fun z hz=>hl z (List.mem_cons_of_mem _ hz)
        have h3:y.data.toList.length=y.size:=Array.length_toList
        simp only [List.map_cons,Lib.lens,List.length_cons,Nat.add_mul,List.sum_cons] at h2 ⊢
        omega
    have k:=key (x :: r) h
    rw [List.map_cons] at k
    simp only [List.length_cons,List.length_map,List.length_nil] at hn k ⊢
    omega
set_option maxHeartbeats 4000000 in
theorem wrow_ok (xs:List ByteArray) (hne:xs≠[]) (hn:xs.length≤4) (hx:∀x∈xs,x.size≤24):ACalls Tryd.prog 29 [.imm (xs.map strA)] [] (fun r o=>r = .val (.string (joinS xs spc++nlS))∧o=[]):=by
 have F:=Fx.nil
 refine ent Tryd.func29 Tryd.ntmps29 Tryd.results29 ?_
 have qj:=jl_len hn hx
 have qs:(joinS xs spc).size≤119:=by
   unfold jl at qj
   rw [List.length_append] at qj
   have:(joinS xs spc).size=(Lib.join (xs.map (·.data.toList)) [32]).length:=List.size_toArray
   simp only [List.length_singleton] at qj
   omega
 obtain ⟨S1,qS1⟩:∃s,joinS xs spc=s:=⟨_,rfl⟩
 have hS1:=qS1
 rw [qS1] at qs
 have q2:nlS.size=1:=rfl
 have hcat:S1.size+nlS.size≤maxLen:=by unfold maxLen;omega
 replace F:=F.add hS1 |>.add hcat
 refine rK [0] ?_
 refine W.seqR ?_
 refine oN 1 ?_
 refine oC [] ?_
 refine ct (Join_ok xs spc hne (by unfold jl at qj;rw [List.length_append] at qj;show (Lib.join (xs.map (·.data.toList)) [32]).length≤_;omega) (by omega)) ?_
 refine oN 2 ?_
 refine oK [2] ?_
 refine W.ret ?_
 exact er0 false [] []
theorem joinS_jl (xs:List ByteArray):(joinS xs spc++nlS).data.toList=jl xs:=by
  simp [joinS,jl,nlS,spc]
end Go.Sim
