/- Choices of results. -/
import Derived.Test.YtojjfnhjmfokhaaQk
import Derived.Test.YtojjfnhjmfokhaaLs
namespace Go.Sim
set_option maxHeartbeats 4000000
open Go.Proofs
set_option maxRecDepth 100000
set_option linter.unusedSimpArgs false
set_option linter.unusedVariables false
attribute [-simp] List.map_set List.map_take List.map_drop
attribute [simp] spn_eta
def St.immNilR (st : St) (id k j : Nat) : Option St :=
  match look id st.objs with
  | some (.row true t s els)=>match els[k]? with
    | some y=>match y.cells[j]? with
      | some (.val (.slice none 0 0))=>match y.setCells j [.imm []] with
        | some z=>some { st with objs:=upd id (.row true t s (els.set k z)) st.objs }
        | none=>none
      | _=>none
    | none=>none
  | _=>none
attribute [simp] St.immNilR
theorem Le.immNilR {st s2 : St} {id k j : Nat} (h : st.immNilR id k j = some s2) : Le st s2 := by
  intro a w e hc
  unfold St.immNilR at h
  split at h
  · rename_i t s els ho
    split at h
    · rename_i y hy
      split at h
      · rename_i hcell
        split at h
        · rename_i z hz
          cases h
          have hdom:=hc.sim.dom id
          rw [ho] at hdom
          obtain ⟨m,hm⟩:=Option.isSome_iff_exists.1 (hdom.trans rfl)
          have hk:=hc.sim.obj id _ m ho hm
          obtain ⟨hle,hzc⟩:=AV.setCells_cells hz
          refine ⟨_,hc.write id _ m hm (Fr.refl _ _) (fun _ _ _ _ _ _=>rfl) ⟨hk.hsz,by simpa using hk.len,hk.cap,fun x hx=>?_,hk.only, ?_⟩,Fr.refl _ _⟩
          · rcases List.mem_or_eq_of_mem_set hx with hx | rfl
            · exact hk.cells x hx
            · rw [hzc,←hk.cells y (List.mem_of_getElem? hy)]
              simp only [setSeg,List.length_append,List.length_take,List.length_drop,List.length_singleton] at hle ⊢
              omega
          · have hkb:=hk.blk
            cases hmb:m.blk with
            | none=>simpa [hmb] using hkb
            | some b =>
              simp only [hmb] at hkb ⊢
              obtain ⟨cur,h1,h2,h3⟩:=hkb
              refine ⟨cur,h1,h2,fun i x hx jj q hq=>?_⟩
              rw [List.getElem?_set] at hx
              by_cases hki:k=i
              · subst hki
                rw [if_pos rfl] at hx
                split at hx
                · cases hx
                  rw [hzc] at hq
                  by_cases hjj:jj=j
                  · subst hjj
                    have hjlt:jj<y.cells.length:=(List.getElem?_eq_some_iff.1 hcell).1
                    simp only [setSeg,List.getElem?_append,List.length_take,List.length_singleton] at hq
                    rw [if_neg (by omega)] at hq
                    have:jj-min jj y.cells.length=0:=by omega
                    rw [this] at hq
                    simp only [List.length_singleton,Nat.lt_one_iff,if_true,List.getElem?_cons_zero,Option.some.injEq] at hq
                    subst hq
                    obtain ⟨v,g1,g2,g3⟩:=h3 k y hy jj _ hcell
                    have hv:=g3.rd.val_inv
                    subst hv
                    exact ⟨_,g1,g2,by simp only [CellRd,if_true];exact .imm0 none 0⟩
                  · refine h3 k y hy jj q ?_
                    simp only [setSeg,List.getElem?_append,List.length_take,List.length_singleton] at hq
                    by_cases hlt:jj<j
                    · have hjlt:j<y.cells.length:=(List.getElem?_eq_some_iff.1 hcell).1
                      rw [if_pos (by omega),List.getElem?_take,if_pos hlt] at hq
                      exact hq
                    · have hjlt:j<y.cells.length:=(List.getElem?_eq_some_iff.1 hcell).1
                      rw [if_neg (by omega),if_neg (by omega),List.getElem?_drop] at hq
                      rw [←hq];congr 1;omega
                · cases hx
              · rw [if_neg hki] at hx
                exact h3 i x hx jj q hq
        · cases h
      · cases h
    · cases h
  · cases h
theorem choN_len {n : Nat} : ∀ (m i : Nat), i ≤ n → (choN n m i).length ≤ 2 ^ (n - i)
  | 0,i,_=>by rw [choN];exact Nat.one_le_two_pow
  | m + 1, i, hi => by
    rw [choN]
    have gen:∀(c i:Nat),i+c=n→((List.range' i c).flatMap fun k=>(choN n m (k+1)).map (k :: ·)).length≤2 ^ c-1:=by
      intro c
      induction c with
      | zero=>intro i _;simp
      | succ c ih =>
        intro i h
        rw [List.range'_succ,List.flatMap_cons,List.length_append,List.length_map]
        have h1:=choN_len (n:=n) m (i+1) (by omega)
        have h2:=ih (i+1) (by omega)
        rw [show n-(i+1)=c by omega] at h1
        have h3:1≤2 ^ c:=Nat.one_le_two_pow
        rw [Nat.pow_succ]
        omega
    have:=gen (n-i) i (by omega)
    have h3:1≤2 ^ (n-i):=Nat.one_le_two_pow
    omega
abbrev natsV (l:List Nat):AV:=ints (intL l)
def natsR (l:List Nat):AV:=natsV l
theorem intL_len (l:List Nat):(intL l).length=l.length:=by simp [intL]
abbrev choV (L:List (List Nat)):AV:=.imm (L.map natsR)
def choF (n m first i:Nat):List (List Nat):=(List.range' first (i-first)).flatMap fun k=>(choN n m (k+1)).map (k :: ·)
theorem choF_zero (n m first:Nat):choF n m first first=[]:=by unfold choF;rw [Nat.sub_self];rfl
theorem choF_succ (n m first:Nat){i:Nat}(h:first≤i):choF n m first (i+1)=choF n m first i++(choN n m (i+1)).map (i :: ·):=by
  unfold choF
  rw [show i+1-first=(i-first)+1 by omega,List.range'_concat,List.flatMap_append,show first+1 * (i-first)=i by omega]
  simp
theorem choF_len {n m first i:Nat}(h1:first≤i) (h2:i≤n) (hn:n≤12):(choF n m first i).length≤4096:=by
  have e:choN n (m+1) first=choF n m first i++(List.range' i (n-i)).flatMap fun k=>(choN n m (k+1)).map (k :: ·):=by
    rw [choN];unfold choF
    rw [←List.flatMap_append,show n-first=(i-first)+(n-i) by omega]
    congr 1
    have h:=List.range'_append (s:=first) (m:=i-first) (n:=n-i) (step:=1)
    rw [show first+1 * (i-first)=i by omega] at h
    exact h.symm
  have h3:=choN_len (n:=n) (m+1) first (by omega)
  rw [e,List.length_append] at h3
  have h4:2 ^ (n-first)≤2 ^ 12:=Nat.pow_le_pow_right (by decide) (by omega)
  omega
theorem choN_rows {n m i:Nat}{l:List Nat}(h:l∈choN n m i):l.length=m:=(choN_mem.1 h).1
theorem Choices_zero (n first:Nat):ACalls Try.prog 46 [I first,I n,I (0:Int)] [] (fun r o=>r = .imm [.imm []]∧o=[]):=by
 have F:=Fx.nil
 refine ent Try.func46 Try.ntmps46 Try.results46 ?_
 refine rK [0,1,2] ?_
 refine W.seqk fun K1 hK1=>?_
 refine rK [0,1,2,12] ?_
 refine cT ?_
 refine rK [6] ?_
 refine W.weaken (Le.immNilR (id:=104) (k:=0) (j:=0) (by simp;rfl)) ?_
 refine W.ret ?_
 refine tr ?_
 clear hK1 K1
 exact er0 false [104] []
theorem Choices_step (n:Nat) (hn:n≤12) (m first:Nat) (hm2:m≤12) (hfn:first≤n) (ih:∀i:Nat,i<n→ACalls Try.prog 46 [I ((i:Int)+1),I n,I m] [] (fun r o=>r=choV (choN n m (i+1))∧o=[])):ACalls Try.prog 46 [I first,I n,I ((m:Int)+1)] [] (fun r o=>r=choV (choN n (m+1) first)∧o=[]):=by
 have F:=Fx.nil
 replace F:=F.add hn |>.add hm2 |>.add hfn
 refine ent Try.func46 Try.ntmps46 Try.results46 ?_
 have hm1:¬(m:Int)+1=0:=by omega
 have hm3:(m:Int)+1-1=m:=by omega
 have hF0:choF n m first first=[]:=choF_zero n m first
 replace F:=F.add hm1 |>.add hm3 |>.add hF0
 refine rK [0,1,2] ?_
 refine W.seqk fun K1 hK1=>?_
 refine rK [0,1,2,12] ?_
 refine cF ?_
 refine W.skip ?_
 refine hK1 _ ?_
 clear hK1 K1
 refine rK [0,1,2,7] ?_
 refine W.seqk fun K2 hK2=>?_
 refine rK [1,2,7,8] ?_
 refine W.block ?_
 refine sn 7 9000 30 1 ?_
 refine lpa (α:=Nat) [1,2] [25,28,34,39,40,41] [9000] (fun i=>[(8,I i),(7,.own 9000 0 (choF n m first i).length)]) (fun i=>[(9000,.row true 30 1 ((choF n m first i).map natsR))]) (fun i=>first≤i∧i≤n) (fun i=>n-i) first v0 ?_
 ·
  intro i hI0
  simp only [List.cons_append,List.nil_append]
  try dsimp only at hI0
  replace F:=F.add hI0
  refine W.seqk fun K3 hK3=>?_
  refine rK [1,2,7,8,17] ?_
  refine it (fun hc2=>?_) (fun hc2=>?_)
  ·
   try simp at hc2
   replace F:=F.add hc2
   refine W.skip ?_
   refine hK3 _ ?_
   clear hK3 K3
   refine W.seqk fun K4 hK4=>?_
   refine W.block ?_
   have hin:i<n:=by omega
   have ihi:=ih i hin
   obtain ⟨C,qC⟩:∃C,choN n m (i+1)=C:=⟨_,rfl⟩
   rw [qC] at ihi
   have qCl:C.length≤4096:=by
     rw [←qC]
     exact Nat.le_trans (choN_len m (i+1) (by omega)) (Nat.le_trans (Nat.pow_le_pow_right (by decide) (show n-(i+1)≤12 by omega)) (by decide))
   have hCl:=qCl
   have qFl:(choF n m first i).length≤4096:=choF_len (by omega) (by omega) hn
   obtain ⟨A,qA⟩:∃A,choF n m first i=A:=⟨_,rfl⟩
   have hA:=qA
   rw [qA] at qFl
   have hAl:=qFl
   have hA1:choF n m first (i+1)=A++C.map (i :: ·):=by rw [choF_succ n m first (by omega),qA,qC]
   replace F:=F.add hin |>.add hCl |>.add hA |>.add hAl |>.add hA1
   refine W.seqR ?_
   refine oNw 5 ?_
   refine oC [] ?_
   refine ct (ihi) ?_
   refine oN 1 ?_
   refine oK [1,2,7,8,9] ?_
   refine rK [1,2,7,8,9,10] ?_
   refine W.block ?_
   refine lpa (α:=Nat) [1,2,8,9] [28,34,39,40,41] [9000] (fun j=>[(10,I j),(7,.own 9000 0 (A.length+j))]) (fun j=>[(9000,.row true 30 1 ((A++(C.take j).map (i :: ·)).map natsR))]) (fun j=>j≤C.length) (fun j=>C.length-j) 0 v0 ?_
   ·
    intro j hI1
    simp only [List.cons_append,List.nil_append]
    try dsimp only at hI1
    replace F:=F.add hI1
    refine W.seqk fun K5 hK5=>?_
    refine rK [1,2,7,8,9,10,29] ?_
    refine it (fun hc3=>?_) (fun hc3=>?_)
    ·
     try simp at hc3
     replace F:=F.add hc3
     refine W.skip ?_
     refine hK5 _ ?_
     clear hK5 K5
     refine W.seqk fun K6 hK6=>?_
     refine W.block ?_
     have hjC:j<C.length:=by omega
     obtain ⟨c,qc⟩:∃c,C[j]=c:=⟨_,rfl⟩
     have hcj:=qc
     have hcl:c.length=m:=by
       have:c∈choN n m (i+1):=by rw [qC,←qc];exact List.getElem_mem hjC
       exact choN_rows this
     have hnr:natsR c = .imm ((intL c).map I):=rfl
     have hil:(intL c).length=m:=by rw [intL_len];exact hcl
     have htkc:List.take m (intL c)=intL c:=List.take_of_length_le (by omega)
     have htk:C.take (j+1)=C.take j++[c]:=by rw [List.take_succ_eq_append_getElem hjC,qc]
     have hnc:natsR (i :: c) = .imm (I i :: (intL c).map I):=rfl
     replace F:=F.add hjC |>.add hcj |>.add hcl |>.add hnr |>.add hil |>.add htkc |>.add htk |>.add hnc
     refine W.region ?_
     refine oNw 8 ?_
     refine fz 272 ?_
     refine oNw 3 ?_
     refine WOps.endK ?_
     refine hK6 _ ?_
     clear hK6 K6
     refine rEw ?_
     refine ⟨j+1,lf0,v0,v0⟩
    ·
     try simp at hc3
     replace F:=F.add hc3
     refine W.exit ?_
     refine hK4 _ ?_
     clear hK5 K5 hK4 K4
     have htC:List.take j C=C:=List.take_of_length_le (by omega)
     have hjC2:j=C.length:=by omega
     replace F:=F.add htC |>.add hjC2
     refine rEw ?_
     refine ⟨i+1,lf0,v0,v0⟩
  ·
   try simp at hc2
   replace F:=F.add hc2
   refine W.exit ?_
   refine hK2 _ ?_
   clear hK3 K3 hK2 K2
   have hin2:i=n:=by omega
   replace F:=F.add hin2
   refine rK [6] ?_
   refine W.ret ?_
   refine er false [9000] [] ?_
   exact ⟨rfl,rfl⟩
theorem Choices_ok (n:Nat) (hn:n≤12):∀(m first:Nat),m≤13→first≤n→ACalls Try.prog 46 [I first,I n,I m] [] (fun r o=>r=choV (choN n m first)∧o=[])
  | 0,first,_,_=>Choices_zero n first
  | m + 1, first, h1, h2 => by
    have h:=Choices_step n hn m first (by omega) h2 fun i hi=>by
      have:=Choices_ok n hn m (i+1) (by omega) (by omega)
      simpa using this
    simpa using h
end Go.Sim
