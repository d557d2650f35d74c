/- Benches: what Check says. -/
import Derived.Test.YtojjfnhjmfokhaaQa
namespace Go.Sim
set_option maxHeartbeats 4000000
open Go.Proofs
set_option maxRecDepth 100000
set_option linter.unusedSimpArgs false
set_option linter.unusedVariables false
attribute [-simp] List.map_set List.map_take List.map_drop
attribute [simp] spn_eta
theorem in_ok (n a b:Int):ACalls Try.prog 77 [I n,I a,I b] [] (fun r o=>r=B (inB n a b)∧o=[]):=by
 have F:=Fx.nil
 refine ent Try.func77 Try.ntmps77 Try.results77 ?_
 refine rK [0,1,2] ?_
 refine W.seqR ?_
 refine oN 4 ?_
 refine gX ?_
 refine gX ?_
 refine gX ?_
 refine oN 2 ?_
 refine oK [6] ?_
 refine W.ret ?_
 refine er false [] [] ?_
 refine ⟨?_,rfl⟩
 unfold inB
 by_cases h1:a≤n<;>by_cases h2:n≤b<;>simp [h1,h2]
theorem many_ok (n m:Int):ACalls Try.prog 94 [I n,I m] [] (fun r o=>r=I (manyC n m)∧o=[]):=by
 have F:=Fx.nil
 refine ent Try.func94 Try.ntmps94 Try.results94 ?_
 refine rK [0,1] ?_
 refine W.seqk fun K1 hK1=>?_
 refine W.block ?_
 refine rK [0,1,5] ?_
 refine it (fun hc1=>?_) (fun hc1=>?_)
 ·
  try simp at hc1
  replace F:=F.add hc1
  refine rK [4] ?_
  refine W.ret ?_
  refine br (tr ?_)
  clear hK1 K1
  refine er false [] [] ?_
  exact ⟨congrArg I (by unfold manyC;(repeat' split) <;> first | rfl | omega),rfl⟩
 ·
  try simp at hc1
  replace F:=F.add hc1
  refine rK [8] ?_
  refine it (fun hc2=>?_) (fun hc2=>?_)
  ·
   try simp at hc2
   replace F:=F.add hc2
   refine rK [4] ?_
   refine W.ret ?_
   refine br (tr ?_)
   clear hK1 K1
   refine er false [] [] ?_
   exact ⟨congrArg I (by unfold manyC;(repeat' split) <;> first | rfl | omega),rfl⟩
  ·
   try simp at hc2
   replace F:=F.add hc2
   refine W.skip ?_
   refine hK1 _ ?_
   clear hK1 K1
   refine rK [4] ?_
   refine W.ret ?_
   refine er false [] [] ?_
   exact ⟨congrArg I (by unfold manyC;(repeat' split) <;> first | rfl | omega),rfl⟩
theorem checkSpan_ok (x:Spn) (a b:Int):ACalls Try.prog 102 [spnV x,I a,I b] [] (fun r o=>r=I (spanC x a b)∧o=[]):=by
 have F:=Fx.nil
 refine ent Try.func102 Try.ntmps102 Try.results102 ?_
 refine rK [1,2,3] ?_
 refine W.seqk fun K1 hK1=>?_
 refine W.block ?_
 by_cases hs1:inB x.lo a b=true
 ·
  replace F:=F.add hs1
  by_cases hs2:inB x.hi a b=true
  ·
   replace F:=F.add hs2
   refine W.seqR ?_
   refine oN 4 ?_
   refine oC [] ?_
   refine ct (in_ok _ _ _) ?_
   refine oN 2 ?_
   refine gT ?_
   refine gT ?_
   refine gT ?_
   refine gT ?_
   refine gC [] ?_
   refine ct (in_ok _ _ _) ?_
   refine gT ?_
   refine oN 2 ?_
   refine oK [3,7] ?_
   refine cF ?_
   refine rK [22] ?_
   refine it (fun hc2=>?_) (fun hc2=>?_)
   ·
    try simp at hc2
    replace F:=F.add hc2
    refine rK [6] ?_
    refine W.ret ?_
    refine br (tr ?_)
    clear hK1 K1
    refine er false [] [] ?_
    simp_all [spanC]
   ·
    try simp at hc2
    replace F:=F.add hc2
    refine W.skip ?_
    refine hK1 _ ?_
    clear hK1 K1
    refine rK [6] ?_
    refine W.ret ?_
    refine er false [] [] ?_
    simp_all [spanC]
  ·
   replace F:=F.add hs2
   refine W.seqR ?_
   refine oN 4 ?_
   refine oC [] ?_
   refine ct (in_ok _ _ _) ?_
   refine oN 2 ?_
   refine gT ?_
   refine gT ?_
   refine gT ?_
   refine gT ?_
   refine gC [] ?_
   refine ct (in_ok _ _ _) ?_
   refine gT ?_
   refine oN 2 ?_
   refine oK [3,7] ?_
   refine cT ?_
   refine rK [6] ?_
   refine W.ret ?_
   refine br (tr ?_)
   clear hK1 K1
   refine er false [] [] ?_
   simp_all [spanC]
 ·
  replace F:=F.add hs1
  refine W.seqR ?_
  refine oN 4 ?_
  refine oC [] ?_
  refine ct (in_ok _ _ _) ?_
  refine oN 2 ?_
  refine gF ?_
  refine gF ?_
  refine gF ?_
  refine gF ?_
  refine gF ?_
  refine gF ?_
  refine oN 2 ?_
  refine oK [3,7] ?_
  refine cT ?_
  refine rK [6] ?_
  refine W.ret ?_
  refine br (tr ?_)
  clear hK1 K1
  refine er false [] [] ?_
  simp_all [spanC]
theorem checkOff_ok (x:Spn):ACalls Try.prog 75 [spnV x] [] (fun r o=>r=I (spanC x (-10000) 10000)∧o=[]):=by
 have F:=Fx.nil
 refine ent Try.func75 Try.ntmps75 Try.results75 ?_
 refine rK [1] ?_
 refine W.seqR ?_
 refine oN 1 ?_
 refine oC [] ?_
 refine ct (checkSpan_ok ⟨_,_⟩ _ _) ?_
 refine oN 1 ?_
 refine oK [2] ?_
 refine W.ret ?_
 exact er0 false [] []
theorem chkM_ok (m:Mas):ACalls Try.prog 97 [M3 m] [] (fun r o=>r=I (masC m)∧o=[]):=by
 have F:=Fx.nil
 refine ent Try.func97 Try.ntmps97 Try.results97 ?_
 refine rK [1] ?_
 refine W.seqk fun K1 hK1=>?_
 by_cases hs1:inB m.nom 1 1000000=true
 ·
  replace F:=F.add hs1
  refine W.seqR ?_
  refine oN 2 ?_
  refine oC [] ?_
  refine ct (in_ok _ _ _) ?_
  refine oN 1 ?_
  refine oK [1,6] ?_
  refine cF ?_
  refine W.skip ?_
  refine hK1 _ ?_
  clear hK1 K1
  refine W.seqR ?_
  refine oN 2 ?_
  refine oC [] ?_
  refine ct (checkOff_ok ⟨_,_⟩) ?_
  refine oN 1 ?_
  refine oK [2] ?_
  refine W.ret ?_
  refine er false [] [] ?_
  simp_all [masC]
 ·
  replace F:=F.add hs1
  refine W.seqR ?_
  refine oN 2 ?_
  refine oC [] ?_
  refine ct (in_ok _ _ _) ?_
  refine oN 1 ?_
  refine oK [1,6] ?_
  refine cT ?_
  refine rK [2] ?_
  refine W.ret ?_
  refine tr ?_
  clear hK1 K1
  refine er false [] [] ?_
  simp_all [masC]
theorem eachM_ok (l:List Mas):ACalls Try.prog 96 [masV l,.clo 97 []] [] (fun r o=>r=I (firstNZ masC l)∧o=[]):=by
 refine ACalls.len (l:=l.map M3) (by simp) ⟨_,Try.func96,by kernel_rfl,by kernel_rfl⟩ fun hl=>?_
 simp [maxLen_val] at hl
 have F:=Fx.nil
 refine ent Try.func96 Try.ntmps96 Try.results96 ?_
 refine rK [0,1] ?_
 refine W.seqk fun K1 hK1=>?_
 refine rK [1,8,9,10] ?_
 refine W.block ?_
 refine lpa (α:=Nat) [1,8,9] [6,16] [] (fun i=>[(10,I i)]) (fun i=>[]) (fun i=>i≤l.length∧firstNZ masC l=firstNZ masC (l.drop i)) (fun i=>l.length-i) 0 v0 ?_
 ·
  intro i hI0
  simp only [List.cons_append,List.nil_append]
  try dsimp only at hI0
  obtain ⟨hi,hm1⟩:=hI0
  replace F:=F.add hi
  refine rK [1,8,9,10,11] ?_
  refine W.seqk fun K2 hK2=>?_
  refine it (fun hc1=>?_) (fun hc1=>?_)
  ·
   try simp at hc1
   replace F:=F.add hc1
   refine W.skip ?_
   refine hK2 _ ?_
   clear hK2 K2
   refine W.seqk fun K3 hK3=>?_
   refine W.block ?_
   have hil:i<l.length:=by omega
   replace F:=F.add hil
   refine rK [1,6,8,9,10] ?_
   refine W.seqR ?_
   refine oN 2 ?_
   refine oC [] ?_
   refine ct (chkM_ok l[i]) ?_
   refine oN 1 ?_
   refine oK [1,7,8,9,10] ?_
   refine rK [1,7,8,9,10,18] ?_
   refine it (fun hc2=>?_) (fun hc2=>?_)
   ·
    try simp at hc2
    replace F:=F.add hc2
    refine rK [4] ?_
    refine W.ret ?_
    refine br (tr (tr (br (tr ?_))))
    clear hK3 K3 hK1 K1
    refine er false [] [] ?_
    first
    | (exfalso;omega)
    | exact ⟨congrArg I (by rw [hm1];exact (firstNZ_hit (by omega) (by assumption)).symm),rfl⟩
    | exact ⟨congrArg I (by rw [hm1];exact (firstNZ_done (by omega)).symm),rfl⟩
   ·
    try simp at hc2
    replace F:=F.add hc2
    refine W.skip ?_
    refine hK3 _ ?_
    clear hK3 K3
    refine rEw ?_
    refine ⟨i+1,lf0, ?_,v0⟩
    ·
     exact ⟨by omega,by rw [hm1,firstNZ_skip (f:=masC) (by omega) (by assumption)]⟩
  ·
   try simp at hc1
   replace F:=F.add hc1
   refine W.exit ?_
   refine hK1 _ ?_
   clear hK2 K2 hK1 K1
   refine rK [4] ?_
   refine W.ret ?_
   refine er false [] [] ?_
   first
   | (exfalso;omega)
   | exact ⟨congrArg I (by rw [hm1];exact (firstNZ_hit (by omega) (by assumption)).symm),rfl⟩
   | exact ⟨congrArg I (by rw [hm1];exact (firstNZ_done (by omega)).symm),rfl⟩
abbrev bx (b:Ben):Obj:=.row false 27 5 [benV b]
theorem chkW_ok (b:Ben) (w:Wei) (hlm:b.mas.length≤1000):ACalls Try.prog 101 [W4 w,.ptr 10000 0 0] [(10000,bx b)] (fun r o=>r=I (weiC b.mas.length w)∧o=[(10000,bx b)]):=by
 have F:=Fx.nil
 replace F:=F.add hlm
 refine ent Try.func101 Try.ntmps101 Try.results101 ?_
 refine rK [1,2] ?_
 refine W.seqk fun K1 hK1=>?_
 refine W.block ?_
 by_cases hs1:inB w.a 0 ((b.mas.length:Int)-1)=true
 ·
  replace F:=F.add hs1
  by_cases hs2:inB w.b 0 ((b.mas.length:Int)-1)=true
  ·
   replace F:=F.add hs2
   refine W.seqR ?_
   refine oNw 6 ?_
   refine oC [] ?_
   refine ct (in_ok _ _ _) ?_
   refine oN 2 ?_
   refine gT ?_
   refine gT ?_
   refine gT ?_
   refine gT ?_
   refine gT ?_
   refine gTw ?_
   refine gC [] ?_
   refine ct (in_ok _ _ _) ?_
   refine gT ?_
   refine oN 2 ?_
   refine oK [2,4] ?_
   refine cF ?_
   refine rK [2,23] ?_
   refine it (fun hc2=>?_) (fun hc2=>?_)
   ·
    try simp at hc2
    replace F:=F.add hc2
    refine rK [3] ?_
    refine W.ret ?_
    refine br (tr ?_)
    clear hK1 K1
    refine er false [] [(10000,10000)] ?_
    simp_all [weiC]
   ·
    try simp at hc2
    replace F:=F.add hc2
    refine W.skip ?_
    refine hK1 _ ?_
    clear hK1 K1
    refine W.seqR ?_
    refine oN 2 ?_
    refine oC [] ?_
    refine ct (checkSpan_ok ⟨_,_⟩ _ _) ?_
    refine oN 1 ?_
    refine oK [3] ?_
    refine W.ret ?_
    refine er false [] [(10000,10000)] ?_
    simp_all [weiC]
  ·
   replace F:=F.add hs2
   refine W.seqR ?_
   refine oNw 6 ?_
   refine oC [] ?_
   refine ct (in_ok _ _ _) ?_
   refine oN 2 ?_
   refine gT ?_
   refine gT ?_
   refine gT ?_
   refine gT ?_
   refine gT ?_
   refine gTw ?_
   refine gC [] ?_
   refine ct (in_ok _ _ _) ?_
   refine gT ?_
   refine oN 2 ?_
   refine oK [2,4] ?_
   refine cT ?_
   refine rK [3] ?_
   refine W.ret ?_
   refine br (tr ?_)
   clear hK1 K1
   refine er false [] [(10000,10000)] ?_
   simp_all [weiC]
 ·
  replace F:=F.add hs1
  refine W.seqR ?_
  refine oNw 6 ?_
  refine oC [] ?_
  refine ct (in_ok _ _ _) ?_
  refine oN 2 ?_
  refine gF ?_
  refine gF ?_
  refine gF ?_
  refine gF ?_
  refine gF ?_
  refine gF ?_
  refine gF ?_
  refine gF ?_
  refine oN 2 ?_
  refine oK [2,4] ?_
  refine cT ?_
  refine rK [3] ?_
  refine W.ret ?_
  refine br (tr ?_)
  clear hK1 K1
  refine er false [] [(10000,10000)] ?_
  simp_all [weiC]
theorem chkS1_ok (s:Scl):ACalls Try.prog 107 [.ptr 10000 0 0] [(10000,.row false 95 4 [C4 s])] (fun r o=>r=I (spanC s.fst (-10000) 10000)∧o=[(10000,.row false 95 4 [C4 s])]):=by
 have F:=Fx.nil
 refine ent Try.func107 Try.ntmps107 Try.results107 ?_
 refine rK [0] ?_
 refine W.seqR ?_
 refine oN 2 ?_
 refine oC [] ?_
 refine ct (checkOff_ok ⟨_,_⟩) ?_
 refine oN 1 ?_
 refine oK [1] ?_
 refine W.ret ?_
 exact er0 false [] [(10000,10000)]
theorem chkS2_ok (s:Scl):ACalls Try.prog 108 [.ptr 10000 0 0] [(10000,.row false 95 4 [C4 s])] (fun r o=>r=I (spanC s.dri (-10000) 10000)∧o=[(10000,.row false 95 4 [C4 s])]):=by
 have F:=Fx.nil
 refine ent Try.func108 Try.ntmps108 Try.results108 ?_
 refine rK [0] ?_
 refine W.seqR ?_
 refine oN 2 ?_
 refine oC [] ?_
 refine ct (checkOff_ok ⟨_,_⟩) ?_
 refine oN 1 ?_
 refine oK [1] ?_
 refine W.ret ?_
 exact er0 false [] [(10000,10000)]
theorem firstS_ok (s:Scl) (fs:List Nat) (res:Nat→Int) (hfs:∀f∈fs,ACalls Try.prog f [.ptr 10000 0 0] [(10000,.row false 95 4 [C4 s])] (fun r o=>r=I (res f)∧o=[(10000,.row false 95 4 [C4 s])])) (hf8:fs.length≤8):ACalls Try.prog 73 [.own 10000 0 fs.length] [(10000,.row false 137 1 (fs.map fun f=>.clo f [.ptr 10001 0 0])),(10001,.row false 95 4 [C4 s])] (fun r o=>r=I (firstNZ res fs)∧o=[(10000,.row false 137 1 (fs.map fun f=>.clo f [.ptr 10001 0 0])),(10001,.row false 95 4 [C4 s])]):=by
 have F:=Fx.nil
 refine ent Try.func73 Try.ntmps73 Try.results73 ?_
 refine rK [0] ?_
 refine W.seqk fun K1 hK1=>?_
 refine rK [6,7,8] ?_
 refine W.block ?_
 refine lpa (α:=Nat) [6,7] [13] [] (fun i=>[(8,I i)]) (fun i=>[]) (fun i=>i≤fs.length∧firstNZ res fs=firstNZ res (fs.drop i)) (fun i=>fs.length-i) 0 v0 ?_
 ·
  intro i hI0
  simp only [List.cons_append,List.nil_append]
  try dsimp only at hI0
  obtain ⟨hi,hm1⟩:=hI0
  replace F:=F.add hi
  refine rK [6,7,8,9] ?_
  refine W.seqk fun K2 hK2=>?_
  refine it (fun hc1=>?_) (fun hc1=>?_)
  ·
   try simp at hc1
   replace F:=F.add hc1
   refine W.skip ?_
   refine hK2 _ ?_
   clear hK2 K2
   refine W.seqk fun K3 hK3=>?_
   refine W.block ?_
   have hil:i<fs.length:=by omega
   replace F:=F.add hil
   refine rK [4,6,7,8] ?_
   refine W.seqR ?_
   refine oN 1 ?_
   refine oC [(10000,10001)] ?_
   refine ct ((hfs fs[i] (List.getElem_mem hil))) ?_
   refine oN 1 ?_
   refine oK [5,6,7,8] ?_
   refine rK [5,6,7,8,15] ?_
   refine it (fun hc2=>?_) (fun hc2=>?_)
   ·
    try simp at hc2
    replace F:=F.add hc2
    refine rK [2] ?_
    refine W.ret ?_
    refine br (tr (tr (br (tr ?_))))
    clear hK3 K3 hK1 K1
    refine er false [] [(10000,10000),(10001,10001)] ?_
    first
    | (exfalso;omega)
    | exact ⟨congrArg I (by rw [hm1];exact (firstNZ_hit (by omega) (by assumption)).symm),rfl⟩
    | exact ⟨congrArg I (by rw [hm1];exact (firstNZ_done (by omega)).symm),rfl⟩
   ·
    try simp at hc2
    replace F:=F.add hc2
    refine W.skip ?_
    refine hK3 _ ?_
    clear hK3 K3
    refine rEw ?_
    refine ⟨i+1,lf0, ?_,v0⟩
    ·
     exact ⟨by omega,by rw [hm1,firstNZ_skip (f:=res) (by omega) (by assumption)]⟩
  ·
   try simp at hc1
   replace F:=F.add hc1
   refine W.exit ?_
   refine hK1 _ ?_
   clear hK2 K2 hK1 K1
   refine rK [2] ?_
   refine W.ret ?_
   refine er false [] [(10000,10000),(10001,10001)] ?_
   first
   | (exfalso;omega)
   | exact ⟨congrArg I (by rw [hm1];exact (firstNZ_hit (by omega) (by assumption)).symm),rfl⟩
   | exact ⟨congrArg I (by rw [hm1];exact (firstNZ_done (by omega)).symm),rfl⟩
theorem chkS_ok (s:Scl):ACalls Try.prog 106 [C4 s] [] (fun r o=>r=I (sclC s)∧o=[]):=by
 have F:=Fx.nil
 refine ent Try.func106 Try.ntmps106 Try.results106 ?_
 obtain ⟨res,qres⟩:∃res:Nat→Int,res=fun f=>if f=107 then spanC s.fst (-10000) 10000 else spanC s.dri (-10000) 10000:=⟨_,rfl⟩
 have qf:∀f∈[107,108],ACalls Try.prog f [.ptr 10000 0 0] [(10000,.row false 95 4 [C4 s])] (fun r o=>r=I (res f)∧o=[(10000,.row false 95 4 [C4 s])]):=by
   intro f hf
   rw [qres]
   simp only [List.mem_cons,List.not_mem_nil,or_false] at hf
   rcases hf with rfl | rfl
   · exact chkS1_ok s
   · exact chkS2_ok s
 have qr:firstNZ res [107,108]=sclC s:=by
   rw [qres];unfold firstNZ firstNZ firstNZ sclC
   by_cases h1:spanC s.fst (-10000) 10000=0<;>by_cases h2:spanC s.dri (-10000) 10000=0<;>simp [h1,h2]
 have qC:=firstS_ok s [107,108] res qf (by decide)
 rw [qr] at qC
 refine rK [1] ?_
 refine W.seqR ?_
 refine oN 2 ?_
 refine WOps.rawL hΓ 40 rfl rfl rfl rfl rfl rfl rfl (by simp;all_goals first | rfl | exact ⟨rfl,rfl⟩) rfl rfl (by decide) (by simp;all_goals first | rfl | exact ⟨rfl,rfl⟩) rfl (by simp;all_goals first | rfl | exact ⟨rfl,rfl⟩) ?_
 refine oC [(10000,40),(10001,8)] ?_
 refine ct (qC) ?_
 refine oN 1 ?_
 refine oK [2] ?_
 refine W.ret ?_
 exact er0 false [] []
theorem eachW_ok (b:Ben) (hlm:b.mas.length≤1000) (l:List Wei):ACalls Try.prog 100 [weiV l,.clo 101 [.ptr 10000 0 0]] [(10000,bx b)] (fun r o=>r=I (firstNZ (weiC b.mas.length) l)∧o=[(10000,bx b)]):=by
 refine ACalls.len (l:=l.map W4) (by simp) ⟨_,Try.func100,by kernel_rfl,by kernel_rfl⟩ fun hl=>?_
 simp [maxLen_val] at hl
 have F:=Fx.nil
 refine ent Try.func100 Try.ntmps100 Try.results100 ?_
 refine rK [0,1] ?_
 refine W.seqk fun K1 hK1=>?_
 refine rK [1,8,9,10] ?_
 refine W.block ?_
 refine lpa (α:=Nat) [1,8,9] [6,16] [] (fun i=>[(10,I i)]) (fun i=>[]) (fun i=>i≤l.length∧firstNZ (weiC b.mas.length) l=firstNZ (weiC b.mas.length) (l.drop i)) (fun i=>l.length-i) 0 v0 ?_
 ·
  intro i hI0
  simp only [List.cons_append,List.nil_append]
  try dsimp only at hI0
  obtain ⟨hi,hm1⟩:=hI0
  replace F:=F.add hi
  refine rK [1,8,9,10,11] ?_
  refine W.seqk fun K2 hK2=>?_
  refine it (fun hc1=>?_) (fun hc1=>?_)
  ·
   try simp at hc1
   replace F:=F.add hc1
   refine W.skip ?_
   refine hK2 _ ?_
   clear hK2 K2
   refine W.seqk fun K3 hK3=>?_
   refine W.block ?_
   have hil:i<l.length:=by omega
   replace F:=F.add hil
   refine rK [1,6,8,9,10] ?_
   refine W.seqR ?_
   refine oN 2 ?_
   refine oC [(10000,10000)] ?_
   refine ct (chkW_ok b l[i] hlm) ?_
   refine oN 1 ?_
   refine oK [1,7,8,9,10] ?_
   refine rK [1,7,8,9,10,18] ?_
   refine it (fun hc2=>?_) (fun hc2=>?_)
   ·
    try simp at hc2
    replace F:=F.add hc2
    refine rK [4] ?_
    refine W.ret ?_
    refine br (tr (tr (br (tr ?_))))
    clear hK3 K3 hK1 K1
    refine er false [] [(10000,10000)] ?_
    first
    | (exfalso;omega)
    | exact ⟨congrArg I (by rw [hm1];exact (firstNZ_hit (by omega) (by assumption)).symm),rfl⟩
    | exact ⟨congrArg I (by rw [hm1];exact (firstNZ_done (by omega)).symm),rfl⟩
   ·
    try simp at hc2
    replace F:=F.add hc2
    refine W.skip ?_
    refine hK3 _ ?_
    clear hK3 K3
    refine rEw ?_
    refine ⟨i+1,lf0, ?_,v0⟩
    ·
     exact ⟨by omega,by rw [hm1,firstNZ_skip (f:=(weiC b.mas.length)) (by omega) (by assumption)]⟩
  ·
   try simp at hc1
   replace F:=F.add hc1
   refine W.exit ?_
   refine hK1 _ ?_
   clear hK2 K2 hK1 K1
   refine rK [4] ?_
   refine W.ret ?_
   refine er false [] [(10000,10000)] ?_
   first
   | (exfalso;omega)
   | exact ⟨congrArg I (by rw [hm1];exact (firstNZ_hit (by omega) (by assumption)).symm),rfl⟩
   | exact ⟨congrArg I (by rw [hm1];exact (firstNZ_done (by omega)).symm),rfl⟩
theorem eachS_ok (l:List Scl):ACalls Try.prog 105 [sclV l,.clo 106 []] [] (fun r o=>r=I (firstNZ sclC l)∧o=[]):=by
 refine ACalls.len (l:=l.map C4) (by simp) ⟨_,Try.func105,by kernel_rfl,by kernel_rfl⟩ fun hl=>?_
 simp [maxLen_val] at hl
 have F:=Fx.nil
 refine ent Try.func105 Try.ntmps105 Try.results105 ?_
 refine rK [0,1] ?_
 refine W.seqk fun K1 hK1=>?_
 refine rK [1,8,9,10] ?_
 refine W.block ?_
 refine lpa (α:=Nat) [1,8,9] [6,16] [] (fun i=>[(10,I i)]) (fun i=>[]) (fun i=>i≤l.length∧firstNZ sclC l=firstNZ sclC (l.drop i)) (fun i=>l.length-i) 0 v0 ?_
 ·
  intro i hI0
  simp only [List.cons_append,List.nil_append]
  try dsimp only at hI0
  obtain ⟨hi,hm1⟩:=hI0
  replace F:=F.add hi
  refine rK [1,8,9,10,11] ?_
  refine W.seqk fun K2 hK2=>?_
  refine it (fun hc1=>?_) (fun hc1=>?_)
  ·
   try simp at hc1
   replace F:=F.add hc1
   refine W.skip ?_
   refine hK2 _ ?_
   clear hK2 K2
   refine W.seqk fun K3 hK3=>?_
   refine W.block ?_
   have hil:i<l.length:=by omega
   replace F:=F.add hil
   refine rK [1,6,8,9,10] ?_
   refine W.seqR ?_
   refine oN 2 ?_
   refine oC [] ?_
   refine ct (chkS_ok l[i]) ?_
   refine oN 1 ?_
   refine oK [1,7,8,9,10] ?_
   refine rK [1,7,8,9,10,18] ?_
   refine it (fun hc2=>?_) (fun hc2=>?_)
   ·
    try simp at hc2
    replace F:=F.add hc2
    refine rK [4] ?_
    refine W.ret ?_
    refine br (tr (tr (br (tr ?_))))
    clear hK3 K3 hK1 K1
    refine er false [] [] ?_
    first
    | (exfalso;omega)
    | exact ⟨congrArg I (by rw [hm1];exact (firstNZ_hit (by omega) (by assumption)).symm),rfl⟩
    | exact ⟨congrArg I (by rw [hm1];exact (firstNZ_done (by omega)).symm),rfl⟩
   ·
    try simp at hc2
    replace F:=F.add hc2
    refine W.skip ?_
    refine hK3 _ ?_
    clear hK3 K3
    refine rEw ?_
    refine ⟨i+1,lf0, ?_,v0⟩
    ·
     exact ⟨by omega,by rw [hm1,firstNZ_skip (f:=sclC) (by omega) (by assumption)]⟩
  ·
   try simp at hc1
   replace F:=F.add hc1
   refine W.exit ?_
   refine hK1 _ ?_
   clear hK2 K2 hK1 K1
   refine rK [4] ?_
   refine W.ret ?_
   refine er false [] [] ?_
   first
   | (exfalso;omega)
   | exact ⟨congrArg I (by rw [hm1];exact (firstNZ_hit (by omega) (by assumption)).symm),rfl⟩
   | exact ⟨congrArg I (by rw [hm1];exact (firstNZ_done (by omega)).symm),rfl⟩
theorem chkT_ok (b:Ben) (t:Tri) (hlm:b.mas.length≤1000) (hls:b.scl.length≤1000):ACalls Try.prog 112 [R4 t,.ptr 10000 0 0] [(10000,bx b)] (fun r o=>r=I (triC b.scl.length b.mas.length b.days t)∧o=[(10000,bx b)]):=by
 have F:=Fx.nil
 replace F:=F.add hlm |>.add hls
 refine ent Try.func112 Try.ntmps112 Try.results112 ?_
 refine rK [1,2] ?_
 refine W.seqk fun K1 hK1=>?_
 refine W.block ?_
 by_cases hs1:inB t.sc 0 ((b.scl.length:Int)-1)=true
 ·
  replace F:=F.add hs1
  by_cases hs2:inB t.ms 0 ((b.mas.length:Int)-1)=true
  ·
   replace F:=F.add hs2
   refine W.seqR ?_
   refine oNw 6 ?_
   refine oC [] ?_
   refine ct (in_ok _ _ _) ?_
   refine oN 2 ?_
   refine gT ?_
   refine gT ?_
   refine gT ?_
   refine gT ?_
   refine gT ?_
   refine gTw ?_
   refine gC [] ?_
   refine ct (in_ok _ _ _) ?_
   refine gT ?_
   refine oN 2 ?_
   refine oK [1,2,4] ?_
   refine cF ?_
   by_cases hs3:inB t.day 0 b.days=true
   ·
    replace F:=F.add hs3
    by_cases hs4:inB t.sh 0 2000000=true
    ·
     replace F:=F.add hs4
     refine W.seqR ?_
     refine oN 4 ?_
     refine oC [] ?_
     refine ct (in_ok _ _ _) ?_
     refine oN 2 ?_
     refine gT ?_
     refine gT ?_
     refine gC [] ?_
     refine ct (in_ok _ _ _) ?_
     refine gT ?_
     refine oN 2 ?_
     refine oK [23] ?_
     refine cF ?_
     refine W.skip ?_
     refine hK1 _ ?_
     clear hK1 K1
     refine rK [3] ?_
     refine W.ret ?_
     refine er false [] [(10000,10000)] ?_
     simp_all [triC]
    ·
     replace F:=F.add hs4
     refine W.seqR ?_
     refine oN 4 ?_
     refine oC [] ?_
     refine ct (in_ok _ _ _) ?_
     refine oN 2 ?_
     refine gT ?_
     refine gT ?_
     refine gC [] ?_
     refine ct (in_ok _ _ _) ?_
     refine gT ?_
     refine oN 2 ?_
     refine oK [23] ?_
     refine cT ?_
     refine rK [3] ?_
     refine W.ret ?_
     refine br (tr ?_)
     clear hK1 K1
     refine er false [] [(10000,10000)] ?_
     simp_all [triC]
   ·
    replace F:=F.add hs3
    refine W.seqR ?_
    refine oN 4 ?_
    refine oC [] ?_
    refine ct (in_ok _ _ _) ?_
    refine oN 2 ?_
    refine gF ?_
    refine gF ?_
    refine gF ?_
    refine gF ?_
    refine oN 2 ?_
    refine oK [23] ?_
    refine cT ?_
    refine rK [3] ?_
    refine W.ret ?_
    refine br (tr ?_)
    clear hK1 K1
    refine er false [] [(10000,10000)] ?_
    simp_all [triC]
  ·
   replace F:=F.add hs2
   refine W.seqR ?_
   refine oNw 6 ?_
   refine oC [] ?_
   refine ct (in_ok _ _ _) ?_
   refine oN 2 ?_
   refine gT ?_
   refine gT ?_
   refine gT ?_
   refine gT ?_
   refine gT ?_
   refine gTw ?_
   refine gC [] ?_
   refine ct (in_ok _ _ _) ?_
   refine gT ?_
   refine oN 2 ?_
   refine oK [1,2,4] ?_
   refine cT ?_
   refine rK [3] ?_
   refine W.ret ?_
   refine br (tr ?_)
   clear hK1 K1
   refine er false [] [(10000,10000)] ?_
   simp_all [triC]
 ·
  replace F:=F.add hs1
  refine W.seqR ?_
  refine oNw 6 ?_
  refine oC [] ?_
  refine ct (in_ok _ _ _) ?_
  refine oN 2 ?_
  refine gF ?_
  refine gF ?_
  refine gF ?_
  refine gF ?_
  refine gF ?_
  refine gF ?_
  refine gF ?_
  refine gF ?_
  refine oN 2 ?_
  refine oK [1,2,4] ?_
  refine cT ?_
  refine rK [3] ?_
  refine W.ret ?_
  refine br (tr ?_)
  clear hK1 K1
  refine er false [] [(10000,10000)] ?_
  simp_all [triC]
theorem eachT_ok (b:Ben) (hlm:b.mas.length≤1000) (hls:b.scl.length≤1000) (l:List Tri):ACalls Try.prog 111 [triV l,.clo 112 [.ptr 10000 0 0]] [(10000,bx b)] (fun r o=>r=I (firstNZ (triC b.scl.length b.mas.length b.days) l)∧o=[(10000,bx b)]):=by
 refine ACalls.len (l:=l.map R4) (by simp) ⟨_,Try.func111,by kernel_rfl,by kernel_rfl⟩ fun hl=>?_
 simp [maxLen_val] at hl
 have F:=Fx.nil
 refine ent Try.func111 Try.ntmps111 Try.results111 ?_
 refine rK [0,1] ?_
 refine W.seqk fun K1 hK1=>?_
 refine rK [1,8,9,10] ?_
 refine W.block ?_
 refine lpa (α:=Nat) [1,8,9] [6,16] [] (fun i=>[(10,I i)]) (fun i=>[]) (fun i=>i≤l.length∧firstNZ (triC b.scl.length b.mas.length b.days) l=firstNZ (triC b.scl.length b.mas.length b.days) (l.drop i)) (fun i=>l.length-i) 0 v0 ?_
 ·
  intro i hI0
  simp only [List.cons_append,List.nil_append]
  try dsimp only at hI0
  obtain ⟨hi,hm1⟩:=hI0
  replace F:=F.add hi
  refine rK [1,8,9,10,11] ?_
  refine W.seqk fun K2 hK2=>?_
  refine it (fun hc1=>?_) (fun hc1=>?_)
  ·
   try simp at hc1
   replace F:=F.add hc1
   refine W.skip ?_
   refine hK2 _ ?_
   clear hK2 K2
   refine W.seqk fun K3 hK3=>?_
   refine W.block ?_
   have hil:i<l.length:=by omega
   replace F:=F.add hil
   refine rK [1,6,8,9,10] ?_
   refine W.seqR ?_
   refine oN 2 ?_
   refine oC [(10000,10000)] ?_
   refine ct (chkT_ok b l[i] hlm hls) ?_
   refine oN 1 ?_
   refine oK [1,7,8,9,10] ?_
   refine rK [1,7,8,9,10,18] ?_
   refine it (fun hc2=>?_) (fun hc2=>?_)
   ·
    try simp at hc2
    replace F:=F.add hc2
    refine rK [4] ?_
    refine W.ret ?_
    refine br (tr (tr (br (tr ?_))))
    clear hK3 K3 hK1 K1
    refine er false [] [(10000,10000)] ?_
    first
    | (exfalso;omega)
    | exact ⟨congrArg I (by rw [hm1];exact (firstNZ_hit (by omega) (by assumption)).symm),rfl⟩
    | exact ⟨congrArg I (by rw [hm1];exact (firstNZ_done (by omega)).symm),rfl⟩
   ·
    try simp at hc2
    replace F:=F.add hc2
    refine W.skip ?_
    refine hK3 _ ?_
    clear hK3 K3
    refine rEw ?_
    refine ⟨i+1,lf0, ?_,v0⟩
    ·
     exact ⟨by omega,by rw [hm1,firstNZ_skip (f:=(triC b.scl.length b.mas.length b.days)) (by omega) (by assumption)]⟩
  ·
   try simp at hc1
   replace F:=F.add hc1
   refine W.exit ?_
   refine hK1 _ ?_
   clear hK2 K2 hK1 K1
   refine rK [4] ?_
   refine W.ret ?_
   refine er false [] [(10000,10000)] ?_
   first
   | (exfalso;omega)
   | exact ⟨congrArg I (by rw [hm1];exact (firstNZ_hit (by omega) (by assumption)).symm),rfl⟩
   | exact ⟨congrArg I (by rw [hm1];exact (firstNZ_done (by omega)).symm),rfl⟩
theorem chk1_ok (b:Ben):ACalls Try.prog 93 [.ptr 10000 0 0] [(10000,bx b)] (fun r o=>r=I (manyC b.mas.length 5)∧o=[(10000,bx b)]):=by
 have F:=Fx.nil
 refine ent Try.func93 Try.ntmps93 Try.results93 ?_
 refine rK [0] ?_
 refine W.seqR ?_
 refine oN 3 ?_
 refine oC [] ?_
 refine ct (many_ok _ _) ?_
 refine oN 1 ?_
 refine oK [1] ?_
 refine W.ret ?_
 exact er0 false [] [(10000,10000)]
theorem chk2_ok (b:Ben):ACalls Try.prog 95 [.ptr 10000 0 0] [(10000,bx b)] (fun r o=>r=I (firstNZ masC b.mas)∧o=[(10000,bx b)]):=by
 have F:=Fx.nil
 refine ent Try.func95 Try.ntmps95 Try.results95 ?_
 refine rK [0] ?_
 refine W.seqR ?_
 refine oN 2 ?_
 refine oC [] ?_
 refine ct (eachM_ok b.mas) ?_
 refine oN 1 ?_
 refine oK [1] ?_
 refine W.ret ?_
 exact er0 false [] [(10000,10000)]
theorem chk3_ok (b:Ben) (hlw:b.wei.length≤1000):ACalls Try.prog 98 [.ptr 10000 0 0] [(10000,bx b)] (fun r o=>r=I (manyC (1+b.wei.length) 7)∧o=[(10000,bx b)]):=by
 have F:=Fx.nil
 replace F:=F.add hlw
 refine ent Try.func98 Try.ntmps98 Try.results98 ?_
 refine rK [0] ?_
 refine W.seqR ?_
 refine oNw 4 ?_
 refine oC [] ?_
 refine ct (many_ok _ _) ?_
 refine oN 1 ?_
 refine oK [1] ?_
 refine W.ret ?_
 exact er0 false [] [(10000,10000)]
theorem chk4_ok (b:Ben) (hlm:b.mas.length≤1000):ACalls Try.prog 99 [.ptr 10000 0 0] [(10000,bx b)] (fun r o=>r=I (firstNZ (weiC b.mas.length) b.wei)∧o=[(10000,bx b)]):=by
 have F:=Fx.nil
 refine ent Try.func99 Try.ntmps99 Try.results99 ?_
 refine rK [0] ?_
 refine W.seqR ?_
 refine oN 3 ?_
 refine oC [(10000,10000)] ?_
 refine ct (eachW_ok b hlm b.wei) ?_
 refine oN 1 ?_
 refine oK [1] ?_
 refine W.ret ?_
 exact er0 false [] [(10000,10000)]
theorem chk5_ok (b:Ben):ACalls Try.prog 103 [.ptr 10000 0 0] [(10000,bx b)] (fun r o=>r=I (manyC b.scl.length 3)∧o=[(10000,bx b)]):=by
 have F:=Fx.nil
 refine ent Try.func103 Try.ntmps103 Try.results103 ?_
 refine rK [0] ?_
 refine W.seqR ?_
 refine oN 3 ?_
 refine oC [] ?_
 refine ct (many_ok _ _) ?_
 refine oN 1 ?_
 refine oK [1] ?_
 refine W.ret ?_
 exact er0 false [] [(10000,10000)]
theorem chk6_ok (b:Ben):ACalls Try.prog 104 [.ptr 10000 0 0] [(10000,bx b)] (fun r o=>r=I (firstNZ sclC b.scl)∧o=[(10000,bx b)]):=by
 have F:=Fx.nil
 refine ent Try.func104 Try.ntmps104 Try.results104 ?_
 refine rK [0] ?_
 refine W.seqR ?_
 refine oN 2 ?_
 refine oC [] ?_
 refine ct (eachS_ok b.scl) ?_
 refine oN 1 ?_
 refine oK [1] ?_
 refine W.ret ?_
 exact er0 false [] [(10000,10000)]
theorem chk7_ok (b:Ben) (hlt:b.tri.length≤1000):ACalls Try.prog 109 [.ptr 10000 0 0] [(10000,bx b)] (fun r o=>r=I (daysC b)∧o=[(10000,bx b)]):=by
 have F:=Fx.nil
 replace F:=F.add hlt
 refine ent Try.func109 Try.ntmps109 Try.results109 ?_
 refine rK [0] ?_
 refine W.seqk fun K1 hK1=>?_
 by_cases hs1:inB b.days 0 8=true
 ·
  replace F:=F.add hs1
  refine W.seqR ?_
  refine oN 2 ?_
  refine oC [] ?_
  refine ct (in_ok _ _ _) ?_
  refine oN 1 ?_
  refine oK [0,5] ?_
  refine cF ?_
  refine W.skip ?_
  refine hK1 _ ?_
  clear hK1 K1
  refine W.seqR ?_
  refine oNw 4 ?_
  refine oC [] ?_
  refine ct (many_ok _ _) ?_
  refine oN 1 ?_
  refine oK [1] ?_
  refine W.ret ?_
  refine er false [] [(10000,10000)] ?_
  simp_all [daysC]
 ·
  replace F:=F.add hs1
  refine W.seqR ?_
  refine oN 2 ?_
  refine oC [] ?_
  refine ct (in_ok _ _ _) ?_
  refine oN 1 ?_
  refine oK [0,5] ?_
  refine cT ?_
  refine rK [1] ?_
  refine W.ret ?_
  refine tr ?_
  clear hK1 K1
  refine er false [] [(10000,10000)] ?_
  simp_all [daysC]
theorem chk8_ok (b:Ben) (hlm:b.mas.length≤1000) (hls:b.scl.length≤1000):ACalls Try.prog 110 [.ptr 10000 0 0] [(10000,bx b)] (fun r o=>r=I (firstNZ (triC b.scl.length b.mas.length b.days) b.tri)∧o=[(10000,bx b)]):=by
 have F:=Fx.nil
 refine ent Try.func110 Try.ntmps110 Try.results110 ?_
 refine rK [0] ?_
 refine W.seqR ?_
 refine oN 3 ?_
 refine oC [(10000,10000)] ?_
 refine ct (eachT_ok b hlm hls b.tri) ?_
 refine oN 1 ?_
 refine oK [1] ?_
 refine W.ret ?_
 exact er0 false [] [(10000,10000)]
theorem firstB_ok (b:Ben) (fs:List Nat) (res:Nat→Int) (hfs:∀f∈fs,ACalls Try.prog f [.ptr 10000 0 0] [(10000,bx b)] (fun r o=>r=I (res f)∧o=[(10000,bx b)])) (hf8:fs.length≤8):ACalls Try.prog 73 [.own 10000 0 fs.length] [(10000,.row false 137 1 (fs.map fun f=>.clo f [.ptr 10001 0 0])),(10001,bx b)] (fun r o=>r=I (firstNZ res fs)∧o=[(10000,.row false 137 1 (fs.map fun f=>.clo f [.ptr 10001 0 0])),(10001,bx b)]):=by
 have F:=Fx.nil
 refine ent Try.func73 Try.ntmps73 Try.results73 ?_
 refine rK [0] ?_
 refine W.seqk fun K1 hK1=>?_
 refine rK [6,7,8] ?_
 refine W.block ?_
 refine lpa (α:=Nat) [6,7] [13] [] (fun i=>[(8,I i)]) (fun i=>[]) (fun i=>i≤fs.length∧firstNZ res fs=firstNZ res (fs.drop i)) (fun i=>fs.length-i) 0 v0 ?_
 ·
  intro i hI0
  simp only [List.cons_append,List.nil_append]
  try dsimp only at hI0
  obtain ⟨hi,hm1⟩:=hI0
  replace F:=F.add hi
  refine rK [6,7,8,9] ?_
  refine W.seqk fun K2 hK2=>?_
  refine it (fun hc1=>?_) (fun hc1=>?_)
  ·
   try simp at hc1
   replace F:=F.add hc1
   refine W.skip ?_
   refine hK2 _ ?_
   clear hK2 K2
   refine W.seqk fun K3 hK3=>?_
   refine W.block ?_
   have hil:i<fs.length:=by omega
   replace F:=F.add hil
   refine rK [4,6,7,8] ?_
   refine W.seqR ?_
   refine oN 1 ?_
   refine oC [(10000,10001)] ?_
   refine ct ((hfs fs[i] (List.getElem_mem hil))) ?_
   refine oN 1 ?_
   refine oK [5,6,7,8] ?_
   refine rK [5,6,7,8,15] ?_
   refine it (fun hc2=>?_) (fun hc2=>?_)
   ·
    try simp at hc2
    replace F:=F.add hc2
    refine rK [2] ?_
    refine W.ret ?_
    refine br (tr (tr (br (tr ?_))))
    clear hK3 K3 hK1 K1
    refine er false [] [(10000,10000),(10001,10001)] ?_
    first
    | (exfalso;omega)
    | exact ⟨congrArg I (by rw [hm1];exact (firstNZ_hit (by omega) (by assumption)).symm),rfl⟩
    | exact ⟨congrArg I (by rw [hm1];exact (firstNZ_done (by omega)).symm),rfl⟩
   ·
    try simp at hc2
    replace F:=F.add hc2
    refine W.skip ?_
    refine hK3 _ ?_
    clear hK3 K3
    refine rEw ?_
    refine ⟨i+1,lf0, ?_,v0⟩
    ·
     exact ⟨by omega,by rw [hm1,firstNZ_skip (f:=res) (by omega) (by assumption)]⟩
  ·
   try simp at hc1
   replace F:=F.add hc1
   refine W.exit ?_
   refine hK1 _ ?_
   clear hK2 K2 hK1 K1
   refine rK [2] ?_
   refine W.ret ?_
   refine er false [] [(10000,10000),(10001,10001)] ?_
   first
   | (exfalso;omega)
   | exact ⟨congrArg I (by rw [hm1];exact (firstNZ_hit (by omega) (by assumption)).symm),rfl⟩
   | exact ⟨congrArg I (by rw [hm1];exact (firstNZ_done (by omega)).symm),rfl⟩
structure LenB (b:Ben):Prop where
  mas:b.mas.length≤1000
  wei:b.wei.length≤1000
  scl:b.scl.length≤1000
  tri:b.tri.length≤1000
def resB (b:Ben) (f:Nat):Int:=(checksB b).getD ([93,95,98,99,103,104,109,110].idxOf f) 0
theorem firstNZ_map {α:Type}{f:α→Int}:∀(l:List α),firstNZ (fun x:Int=>x) (l.map f)=firstNZ f l
  | []=>rfl
  | x :: l=>by rw [List.map_cons,firstNZ,firstNZ,firstNZ_map l]
theorem resB_all (b:Ben):firstNZ (resB b) [93,95,98,99,103,104,109,110]=checkB b:=by
  rw [←firstNZ_map,checkB]
  rfl
theorem Check_ok (b:Ben) (hLb:LenB b):ACalls Try.prog 41 [benV b] [] (fun r o=>r=I (checkB b)∧o=[]):=by
 have F:=Fx.nil
 refine ent Try.func41 Try.ntmps41 Try.results41 ?_
 obtain ⟨hlm,hlw,hls,hlt⟩:=hLb
 have qf:∀f∈[93,95,98,99,103,104,109,110],ACalls Try.prog f [.ptr 10000 0 0] [(10000,bx b)] (fun r o=>r=I (resB b f)∧o=[(10000,bx b)]):=by
   intro f hf
   simp only [List.mem_cons,List.not_mem_nil,or_false] at hf
   rcases hf with rfl | rfl | rfl | rfl | rfl | rfl | rfl | rfl
   · exact chk1_ok b
   · exact chk2_ok b
   · exact chk3_ok b hlw
   · exact chk4_ok b hlm
   · exact chk5_ok b
   · exact chk6_ok b
   · exact chk7_ok b hlt
   · exact chk8_ok b hlm hls
 have qC:=firstB_ok b [93,95,98,99,103,104,109,110] (resB b) qf (by decide)
 rw [resB_all b] at qC
 refine rK [1] ?_
 refine W.seqR ?_
 refine oN 8 ?_
 refine WOps.rawL hΓ 88 rfl rfl rfl rfl rfl rfl rfl (by simp;all_goals first | rfl | exact ⟨rfl,rfl⟩) rfl rfl (by decide) (by simp;all_goals first | rfl | exact ⟨rfl,rfl⟩) rfl (by simp;all_goals first | rfl | exact ⟨rfl,rfl⟩) ?_
 refine oC [(10000,88),(10001,8)] ?_
 refine ct (qC) ?_
 refine oN 1 ?_
 refine oK [2] ?_
 refine W.ret ?_
 exact er0 false [] []
end Go.Sim
