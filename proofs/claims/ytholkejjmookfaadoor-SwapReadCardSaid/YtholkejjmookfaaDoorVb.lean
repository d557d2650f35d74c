/- Copies, comparisons, dice. -/
import Derived.Test.YtholkejjmookfaaDoorVa
namespace Go.Sim.W6
open Go.Proofs
set_option maxRecDepth 100000
set_option linter.unusedSimpArgs false
set_option linter.unusedVariables false
attribute [-simp] List.map_set
abbrev tabs (l:List (List Int)):AV:=.imm (l.map ints)
abbrev tlists (l:List (List Turn)):AV:=.imm (l.map turns)
abbrev trade (ow:List Turn) (lk:List (List Turn)):AV:=.agg [turns ow,tlists lk]
theorem same_init (m n:Nat):((m:Int)==(n:Int))=decide (m=n):=by
  by_cases h:m=n<;>simp [h];omega
theorem take_step {α:Type}{a b:List α}{i:Nat}(h1:i<a.length) (h2:i<b.length) (h3:a.take i=b.take i):(a[i]=b[i])↔a.take (i+1)=b.take (i+1):=by
  have e1:=List.take_succ_eq_append_getElem h1
  have e2:=List.take_succ_eq_append_getElem h2
  rw [e1,e2,h3]
  exact ⟨fun h=>by rw [h],fun h=>by have:=List.append_cancel_left h;simpa using this⟩
theorem same_step {α:Type} [BEq α] [LawfulBEq α] [DecidableEq α] {a b:List α}{i:Nat}(h:(a.length=b.length∧a.take i=b.take i)∧i<b.length) (h1:i<a.length) (h2:i<b.length):(a[i]==b[i])=decide (a.take (i+1)=b.take (i+1)):=by
  rw [Bool.eq_iff_iff]
  simp [take_step h1 h2 h.1.2]
theorem same_end {α:Type} [DecidableEq α] {a b:List α}{i:Nat}(h:a.length=b.length→a.take i=b.take i→b.length≤i) (hi:i≤a.length):decide (a.length=b.length∧a.take i=b.take i)=decide (a=b):=by
  rw [decide_eq_decide]
  constructor
  · rintro ⟨h1,h2⟩
    have:=h h1 h2
    rwa [List.take_of_length_le (by omega),List.take_of_length_le (by omega)] at h2
  · rintro rfl;exact ⟨rfl,rfl⟩
theorem same_end' {α:Type} [DecidableEq α] {a b:List α}{i:Nat}(h:a.length=b.length→a.take i=b.take i→b.length≤i) (hi:i≤a.length):(decide (a.length=b.length)&&decide (a.take i=b.take i))=decide (a=b):=by
  rw [←Bool.decide_and];exact same_end h hi
theorem take_len_map {α β:Type}(f:α→β) (l:List α):(l.map f).take l.length=l.map f:=by rw [←List.map_take,List.take_length]
attribute [simp] take_len_map
theorem take_snoc {α β:Type}(f:α→β){l:List α}{i:Nat}(h:i<l.length):(l.map f).take i++[f l[i]]=(l.map f).take (i+1):=by
  rw [List.take_succ_eq_append_getElem (by simpa using h)];simp
theorem SameInts_ok (a b:List Int):ACalls Tryd.prog 18 [ints a,ints b] [] (fun r o=>r=B (decide (a=b))∧o=[]):=by
 refine ACalls.len (l:=a.map I) (by simp) ⟨_,Tryd.func18,by kernel_rfl,by kernel_rfl⟩ fun ha=>?_
 simp [maxLen_val] at ha
 have F:=Fx.nil
 refine ent Tryd.func18 Tryd.ntmps18 Tryd.results18 ?_
 refine rK [0,1] ?_
 refine rK [0,1,5] ?_
 refine W.seqk fun K1 hK1=>?_
 refine rK [0,1,5,6] ?_
 refine W.block ?_
 refine lp (α:=Nat) [0,1] [16] [] (fun i=>[(5,B (decide (a.length=b.length∧a.take i=b.take i))),(6,I i)]) (fun i=>[]) (fun i=>i≤a.length) (fun i=>a.length-i) 0 ?_ ?_ v0 ?_
 ·
  try (simp [Fx.get F])
  all_goals (
   exact same_init _ _
  )
 ·
  exact v1
 ·
  intro i hI0
  simp only [List.cons_append,List.nil_append]
  try dsimp only at hI0
  replace F:=F.add hI0
  refine W.seqk fun K2 hK2=>?_
  refine W.seqR ?_
  refine oN 2 ?_
  refine gX ?_
  refine gX ?_
  refine gX ?_
  refine gX ?_
  refine oN 1 ?_
  refine oK [0,1,5,6,18] ?_
  refine it (fun hc1=>?_) (fun hc1=>?_)
  ·
   try simp at hc1
   replace F:=F.add hc1
   refine W.skip ?_
   refine hK2 _ ?_
   clear hK2 K2
   refine W.seqk fun K3 hK3=>?_
   refine W.block ?_
   have hb:i<b.length:=by omega
   replace F:=F.add hb
   refine wDe 8 [] [[],[],[1,0],[0,1,2],[],[],[5,4],[4,5,6],[6,5,4,7,2,1,0,3],[3,0,1,2,7,4,5,6,8]] ?_
   refine dB [([22,25,26,27,28],[],[]),([21,25,26,27,28],[false],[]),([25,26,27,28],[true,true],[]),([25,26,27,28],[true,true,true],[]),([21,22,23,24,26],[false,false,false,false],[]),([21,22,23,24,25],[false,false,false,false,false],[]),([21,22,23,24],[false,false,false,false,true,true],[]),([21,22,23,24],[false,false,false,false,true,true,true],[])] 0 8 ?_
   refine dD ?_
   refine oN 2 ?_
   refine WOps.endK ?_
   refine hK3 _ ?_
   clear hK3 K3
   refine rEw ?_
   refine ⟨i+1,lf ?_ ?_,v0,v0⟩
   ·
    try (simp [Fx.get F])
    all_goals (
     first | exact same_step hc1 _ hb | exact take_step _ hb hc1.1.2
    )
   ·
    exact v1
  ·
   try simp at hc1
   replace F:=F.add hc1
   refine W.exit ?_
   refine hK1 _ ?_
   clear hK2 K2 hK1 K1
   refine rK [4] ?_
   refine W.ret ?_
   refine er false [] [] ?_
   exact ⟨by rw [same_end' hc1 hI0],rfl⟩
theorem SameTurns_ok (a b:List Turn):ACalls Tryd.prog 17 [turns a,turns b] [] (fun r o=>r=B (decide (a=b))∧o=[]):=by
 refine ACalls.len (l:=a.map T) (by simp) ⟨_,Tryd.func17,by kernel_rfl,by kernel_rfl⟩ fun ha=>?_
 simp [maxLen_val] at ha
 have F:=Fx.nil
 refine ent Tryd.func17 Tryd.ntmps17 Tryd.results17 ?_
 refine rK [0,1] ?_
 refine rK [0,1,5] ?_
 refine W.seqk fun K1 hK1=>?_
 refine rK [0,1,5,6] ?_
 refine W.block ?_
 refine lp (α:=Nat) [0,1] [16] [] (fun i=>[(5,B (decide (a.length=b.length∧a.take i=b.take i))),(6,I i)]) (fun i=>[]) (fun i=>i≤a.length) (fun i=>a.length-i) 0 ?_ ?_ v0 ?_
 ·
  try (simp [Fx.get F])
  all_goals (
   exact same_init _ _
  )
 ·
  exact v1
 ·
  intro i hI0
  simp only [List.cons_append,List.nil_append]
  try dsimp only at hI0
  replace F:=F.add hI0
  refine W.seqk fun K2 hK2=>?_
  refine W.seqR ?_
  refine oN 2 ?_
  refine gX ?_
  refine gX ?_
  refine gX ?_
  refine gX ?_
  refine oN 1 ?_
  refine oK [0,1,5,6,18] ?_
  refine it (fun hc1=>?_) (fun hc1=>?_)
  ·
   try simp at hc1
   replace F:=F.add hc1
   refine W.skip ?_
   refine hK2 _ ?_
   clear hK2 K2
   refine W.seqk fun K3 hK3=>?_
   refine W.block ?_
   have hb:i<b.length:=by omega
   replace F:=F.add hb
   refine wDe 8 [] [[],[],[1,0],[0,1,2],[],[],[5,4],[4,5,6],[6,5,4,7,2,1,0,3],[3,0,1,2,7,4,5,6,8]] ?_
   refine dB [([22,25,26,27,28],[],[]),([21,25,26,27,28],[false],[]),([25,26,27,28],[true,true],[]),([25,26,27,28],[true,true,true],[]),([21,22,23,24,26],[false,false,false,false],[]),([21,22,23,24,25],[false,false,false,false,false],[]),([21,22,23,24],[false,false,false,false,true,true],[]),([21,22,23,24],[false,false,false,false,true,true,true],[])] 0 8 ?_
   refine dD ?_
   refine oN 2 ?_
   refine WOps.endK ?_
   refine hK3 _ ?_
   clear hK3 K3
   refine rEw ?_
   refine ⟨i+1,lf ?_ ?_,v0,v0⟩
   ·
    try (simp [Fx.get F])
    all_goals (
     first | exact same_step hc1 _ hb | exact take_step _ hb hc1.1.2
    )
   ·
    exact v1
  ·
   try simp at hc1
   replace F:=F.add hc1
   refine W.exit ?_
   refine hK1 _ ?_
   clear hK2 K2 hK1 K1
   refine rK [4] ?_
   refine W.ret ?_
   refine er false [] [] ?_
   exact ⟨by rw [same_end' hc1 hI0],rfl⟩
theorem SameTables_ok (a b:List (List Int)):ACalls Tryd.prog 16 [tabs a,tabs b] [] (fun r o=>r=B (decide (a=b))∧o=[]):=by
 refine ACalls.len (l:=a.map ints) (by simp) ⟨_,Tryd.func16,by kernel_rfl,by kernel_rfl⟩ fun ha=>?_
 simp [maxLen_val] at ha
 have F:=Fx.nil
 refine ent Tryd.func16 Tryd.ntmps16 Tryd.results16 ?_
 refine rK [0,1] ?_
 refine rK [0,1,5] ?_
 refine W.seqk fun K1 hK1=>?_
 refine rK [0,1,5,6] ?_
 refine W.block ?_
 refine lp (α:=Nat) [0,1] [16,29] [] (fun i=>[(5,B (decide (a.length=b.length∧a.take i=b.take i))),(6,I i)]) (fun i=>[]) (fun i=>i≤a.length) (fun i=>a.length-i) 0 ?_ ?_ v0 ?_
 ·
  try (simp [Fx.get F])
  all_goals (
   exact same_init _ _
  )
 ·
  exact v1
 ·
  intro i hI0
  simp only [List.cons_append,List.nil_append]
  try dsimp only at hI0
  replace F:=F.add hI0
  refine W.seqk fun K2 hK2=>?_
  refine W.seqR ?_
  refine oN 2 ?_
  refine gX ?_
  refine gX ?_
  refine gX ?_
  refine gX ?_
  refine oN 1 ?_
  refine oK [0,1,5,6,18] ?_
  refine it (fun hc1=>?_) (fun hc1=>?_)
  ·
   try simp at hc1
   replace F:=F.add hc1
   refine W.skip ?_
   refine hK2 _ ?_
   clear hK2 K2
   refine W.seqk fun K3 hK3=>?_
   refine W.block ?_
   have hb:i<b.length:=by omega
   replace F:=F.add hb
   refine wDe 8 [] [[],[],[1,0],[0,1,2],[],[],[5,4],[4,5,6],[6,5,4,7,2,1,0,3],[3,0,1,2,7,4,5,6,8]] ?_
   refine dB [([22,25,26,27,28],[],[]),([21,25,26,27,28],[false],[]),([25,26,27,28],[true,true],[]),([25,26,27,28],[true,true,true],[]),([21,22,23,24,26],[false,false,false,false],[]),([21,22,23,24,25],[false,false,false,false,false],[]),([21,22,23,24],[false,false,false,false,true,true],[]),([21,22,23,24],[false,false,false,false,true,true,true],[])] 0 8 ?_
   refine dD ?_
   refine oC [] ?_
   refine ct (W6.SameInts_ok _ _) ?_
   refine oN 1 ?_
   refine WOps.endK ?_
   refine hK3 _ ?_
   clear hK3 K3
   refine rEw ?_
   refine ⟨i+1,lf ?_ ?_,v0,v0⟩
   ·
    try (simp [Fx.get F])
    all_goals (
     first | exact same_step hc1 _ hb | exact take_step _ hb hc1.1.2
    )
   ·
    exact v1
  ·
   try simp at hc1
   replace F:=F.add hc1
   refine W.exit ?_
   refine hK1 _ ?_
   clear hK2 K2 hK1 K1
   refine rK [4] ?_
   refine W.ret ?_
   refine er false [] [] ?_
   exact ⟨by rw [same_end' hc1 hI0],rfl⟩
theorem SameTrades_ok (ow ow' : List Turn) (lk lk' : List (List Turn)):ACalls Tryd.prog 9 [trade ow lk,trade ow' lk'] [] (fun r o=>r=B (decide (ow=ow'∧lk=lk'))∧o=[]):=by
 refine ACalls.lenA (xs:=[turns ow,tlists lk]) (l:=lk.map turns) (by simp) (by simp) ⟨_,Tryd.func9,by kernel_rfl,by kernel_rfl⟩ fun hlen=>?_
 simp [maxLen_val] at hlen
 have F:=Fx.nil
 refine ent Tryd.func9 Tryd.ntmps9 Tryd.results9 ?_
 refine rK [2,3] ?_
 refine W.seqR ?_
 refine oN 4 ?_
 refine oC [] ?_
 refine ct (W6.SameTurns_ok _ _) ?_
 refine oN 1 ?_
 refine gX ?_
 refine gX ?_
 refine gX ?_
 refine gX ?_
 refine gX ?_
 refine gX ?_
 refine gX ?_
 refine oN 2 ?_
 refine oK [2,3,5] ?_
 refine W.seqk fun K1 hK1=>?_
 refine rK [2,3,5,6] ?_
 refine W.block ?_
 refine lp (α:=Nat) [2,3] [26,41] [] (fun i=>[(5,B (decide (ow=ow')&&decide (lk.length=lk'.length∧lk.take i=lk'.take i))),(6,I i)]) (fun i=>[]) (fun i=>i≤lk.length) (fun i=>lk.length-i) 0 ?_ ?_ v0 ?_
 ·
  try (simp [Fx.get F])
  all_goals (
   rw [same_init]
  )
 ·
  exact v1
 ·
  intro i hI0
  simp only [List.cons_append,List.nil_append]
  try dsimp only at hI0
  replace F:=F.add hI0
  refine W.seqk fun K2 hK2=>?_
  refine W.seqR ?_
  refine oN 2 ?_
  refine gX ?_
  refine gX ?_
  refine gX ?_
  refine gX ?_
  refine gX ?_
  refine oN 1 ?_
  refine oK [2,3,5,6,28] ?_
  refine it (fun hc1=>?_) (fun hc1=>?_)
  ·
   try simp at hc1
   replace F:=F.add hc1
   refine W.skip ?_
   refine hK2 _ ?_
   clear hK2 K2
   refine W.seqk fun K3 hK3=>?_
   refine W.block ?_
   have hb:i<lk'.length:=by omega
   replace F:=F.add hb
   refine wDe 10 [] [[],[0],[],[2,0,1],[1,0,2,3],[],[5],[],[7,5,6],[6,5,7,8],[8,7,5,6,9,3,2,0,1,4],[4,1,0,2,3,9,6,5,7,8,10]] ?_
   refine dB [([33,36,37,38,39,40],[],[]),([33,36,37,38,39,40],[true],[]),([31,32,36,37,38,39,40],[false,false],[]),([36,37,38,39,40],[true,true,true],[]),([36,37,38,39,40],[true,true,true,true],[]),([31,32,33,34,35,38],[false,false,false,false,false],[]),([31,32,33,34,35,38],[false,false,false,false,false,true],[]),([31,32,33,34,35,36,37],[false,false,false,false,false,false,false],[]),([31,32,33,34,35],[false,false,false,false,false,true,true,true],[]),([31,32,33,34,35],[false,false,false,false,false,true,true,true,true],[])] 0 10 ?_
   refine dD ?_
   refine oC [] ?_
   refine ct (W6.SameTurns_ok _ _) ?_
   refine oN 1 ?_
   refine WOps.endK ?_
   refine hK3 _ ?_
   clear hK3 K3
   refine rEw ?_
   refine ⟨i+1,lf ?_ ?_,v0,v0⟩
   ·
    try (simp [Fx.get F])
    all_goals (
     exact take_step _ hb hc1.1.2.2
    )
   ·
    exact v1
  ·
   try simp at hc1
   replace F:=F.add hc1
   refine W.exit ?_
   refine hK1 _ ?_
   clear hK2 K2 hK1 K1
   refine rK [4] ?_
   refine W.ret ?_
   refine er false [] [] ?_
   refine ⟨?_,rfl⟩
   rw [←Bool.decide_and]
   by_cases h:ow=ow'
   · simp only [h,true_and,decide_true,Bool.true_and];exact congrArg B (same_end (fun h1 h2=>hc1 h h1 h2) hI0)
   · simp [h]
/-! dice -/
abbrev die (f:Int):Obj:=.row false 59 1 [.agg [.val (.int .u64 f)]]
def u64 (n:Int):Int:=IntKind.u64.wrap n
theorem u64_range (n:Int):0≤u64 n∧u64 n<18446744073709551616:=by
  have e1:(2:Int) ^ IntKind.u64.bits=18446744073709551616:=by decide
  have e3:IntKind.u64.signed=false:=rfl
  unfold u64
  simp only [IntKind.wrap,e1,e3,Bool.false_and,Bool.false_eq_true,if_false]
  omega
def rollF (f:Int):Int:=IntKind.u64.wrap (f+11562461410679940143)
noncomputable def xsh (x k:Int):Int:=xorI .u64 x (shrI .u64 x k)
noncomputable def rollV (f:Int):Int:=xsh (mulI .u64 (xsh (mulI .u64 (xsh (rollF f) 30) 13787848793156543929) 27) 10723151780598845931) 31
theorem roll_ok (f:Int):ACalls Tryd.prog 24 [.ptr 10000 0 0] [(10000,die f)] (fun r o=>r = .val (.int .u64 (rollV f))∧o=[(10000,die (rollF f))]):=by
 have F:=Fx.nil
 refine ent Tryd.func24 Tryd.ntmps24 Tryd.results24 ?_
 refine rK [0] ?_
 refine rK [0] ?_
 refine rK [3] ?_
 refine rK [3] ?_
 refine rK [3] ?_
 refine rK [2] ?_
 refine W.ret ?_
 refine er false [] [(10000,10000)] ?_
 exact ⟨rfl,rfl⟩
end Go.Sim.W6
