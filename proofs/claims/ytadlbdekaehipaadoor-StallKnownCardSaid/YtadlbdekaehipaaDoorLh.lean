/- Who is ahead of whom. -/
import Derived.Test.YtadlbdekaehipaaDoorLg
namespace Go.Sim
set_option maxHeartbeats 4000000
open Go.Proofs
set_option maxRecDepth 100000
set_option linter.unusedSimpArgs false
set_option linter.unusedVariables false
attribute [-simp] List.map_set List.map_take List.map_drop
theorem cons_eraseIdx_perm {l:List Int}{i:Nat}(h:i<l.length):(l[i] :: l.eraseIdx i).Perm l:=by
  rw [List.eraseIdx_eq_take_drop_succ]
  refine List.Perm.trans List.perm_middle.symm ?_
  rw [←List.drop_eq_getElem_cons h,List.take_append_drop]
theorem drawG_perm:∀(n t:Nat) (r:List Int),r.length=n→(drawG n t r).Perm r
  | 0,t,r,h=>by rw [List.length_eq_zero_iff.1 h];exact List.Perm.refl _
  | n+1,t,r,h=>by
    have hq:t % r.length<r.length:=Nat.mod_lt _ (by omega)
    rw [drawG,nth_get hq]
    refine List.Perm.trans (List.Perm.cons _ (drawG_perm n _ _ (by rw [List.length_eraseIdx_of_lt hq];omega))) ?_
    exact cons_eraseIdx_perm hq
theorem drawL_perm (l:List App):(drawL l).Perm (idsI l.length):=drawG_perm _ _ _ (idsI_len _)
theorem drawL_len (l:List App):(drawL l).length=l.length:=by rw [(drawL_perm l).length_eq,idsI_len]
theorem idsI_nodup (n:Nat):(idsI n).Nodup:=by
  rw [idsI,List.nodup_iff_pairwise_ne,List.pairwise_map]
  exact List.Pairwise.imp (fun {a b} h e=>h (Int.ofNat.inj e)) (List.nodup_iff_pairwise_ne.1 List.nodup_range)
theorem mem_idsI {n:Nat}{x:Int}:x∈idsI n↔0≤x∧x<n:=by
  rw [idsI,List.mem_map]
  constructor
  · rintro ⟨k,hk,rfl⟩
    rw [List.mem_range] at hk
    exact ⟨Int.natCast_nonneg _,by simpa using hk⟩
  · rintro ⟨h1,h2⟩
    exact ⟨x.toNat,List.mem_range.2 (by omega),by simp;omega⟩
theorem drawL_nodup (l:List App):(drawL l).Nodup:=(drawL_perm l).nodup_iff.2 (idsI_nodup _)
theorem mem_drawL {l:List App}{x:Int}:x∈drawL l↔0≤x∧x<l.length:=by rw [(drawL_perm l).mem_iff,mem_idsI]
theorem wfI {n:Int}(h1 : -9223372036854775808≤n) (h2:n<9223372036854775808):(Lit.int .i64 n).wf=true:=by
  have e1:IntKind.i64.min = -9223372036854775808:=by decide
  have e2:IntKind.i64.max=9223372036854775807:=by decide
  simp only [Lit.wf,e1,e2,Bool.and_eq_true,decide_eq_true_eq];omega
theorem sameKey_int (a b:Int):sameKey (.int .i64 a) (.int .i64 b)=decide (a=b):=by
  rw [Bool.eq_iff_iff];simp [sameKey]
abbrev shI:Value:=.int .i64 0
def ordE:Nat→List Int→List (Value×AV)
  | _,[]=>[]
  | k,x :: r=>(.int .i64 x,I (k:Int)) :: ordE (k+1) r
theorem getM_ord (x:Int):∀(l:List Int) (k:Nat),getM (.int .i64 x) (ordE k l)=if x∈l then some (I ((k+l.idxOf x:Nat):Int)) else none
  | [],k=>by simp [ordE,getM]
  | y :: r, k => by
    simp only [ordE,getM,sameKey_int,decide_eq_true_eq,getM_ord x r (k+1)]
    by_cases h:x=y
    · subst h;simp
    · rw [if_neg h,List.idxOf_cons,show (y==x)=false by simpa using fun e=>h e.symm]
      simp only [List.mem_cons,h,false_or,cond_false]
      by_cases hm:x∈r
      · rw [if_pos hm,if_pos hm];congr 2;omega
      · rw [if_neg hm,if_neg hm]
theorem setM_ord {x:Int}:∀ {l:List Int}{k:Nat},x ∉ l→setM (.int .i64 x) (I ((k+l.length:Nat):Int)) (ordE k l)=ordE k (l++[x])
  | [],k,_=>by simp [ordE,setM]
  | y :: r,k,h=>by
    have h1:¬x=y:=fun e=>h (by simp [e])
    have ih:=setM_ord (x:=x) (l:=r) (k:=k+1) (fun hm=>h (by simp [hm]))
    simp only [ordE,List.cons_append,setM,sameKey_int,decide_eq_true_eq,if_neg h1,List.length_cons]
    rw [←ih,show k+(r.length+1)=k+1+r.length by omega]
theorem ordE_len:∀(l:List Int) (k:Nat),(ordE k l).length=l.length
  | [],_=>rfl
  | x :: r,k=>by simp [ordE,ordE_len r]
theorem queueOf_ok (l:Lett) (hv:ValidL l) (s:Int):ACalls Tryd.prog 21 [letV l,I s] [] (fun r o=>r = .agg [stalls l.stalls,apps l.apps,I s,.map 20000]∧o=[(20000,.mp true shI (ordE 0 (drawL l.apps)))]):=by
 have F:=Fx.nil
 refine ent Tryd.func21 Tryd.ntmps21 Tryd.results21 ?_
 have h8:=hv.a8
 have hdl:=drawL_len l.apps
 replace F:=F.add h8 |>.add hdl
 refine rK [1,2,4] ?_
 refine rK [2,4,5] ?_
 refine W.seqk fun K1 hK1=>?_
 refine W.seqR ?_
 refine oN 1 ?_
 refine oC [] ?_
 refine ct (draw_imm _ hv) ?_
 refine oN 2 ?_
 refine oK [4,5,13,14,15] ?_
 refine W.block ?_
 refine lp (α:=Nat) [4,5,13,14] [] [80] (fun i=>[(15,I i)]) (fun i=>[(80,.mp true shI (ordE 0 ((drawL l.apps).take i)))]) (fun i=>i≤l.apps.length) (fun i=>l.apps.length-i) 0 ?_ ?_ v0 ?_
 ·
  exact v1
 ·
  try (simp [Fx.get F])
  all_goals (
   rfl
  )
 ·
  intro i hI0
  simp only [List.cons_append,List.nil_append]
  try dsimp only at hI0
  replace F:=F.add hI0
  refine rK [4,5,13,14,15,16] ?_
  refine W.seqk fun K2 hK2=>?_
  refine it (fun hc1=>?_) (fun hc1=>?_)
  ·
   try simp at hc1
   replace F:=F.add hc1
   refine W.skip ?_
   refine hK2 _ ?_
   clear hK2 K2
   refine W.seqk fun K3 hK3=>?_
   refine W.block ?_
   have hid:i<(drawL l.apps).length:=by omega
   have qm:=mem_drawL.1 (List.getElem_mem hid)
   have hw1:(Lit.int .i64 (drawL l.apps)[i]).wf=true:=wfI (by omega) (by omega)
   have hle:(ordE 0 ((drawL l.apps).take i)).length=i:=by rw [ordE_len,List.length_take];omega
   have hset:setM (.int .i64 (drawL l.apps)[i]) (I i) (ordE 0 ((drawL l.apps).take i))=ordE 0 ((drawL l.apps).take (i+1)):=by
     have h1:(drawL l.apps)[i] ∉ (drawL l.apps).take i:=by
       have:=nodup_take_iff.1 (drawL_nodup l.apps) i hid
       rwa [nth_get hid] at this
     have h2:=setM_ord (k:=0) h1
     rw [←List.take_succ_eq_append_getElem hid] at h2
     rw [←h2,List.length_take,Nat.min_eq_left (by omega)];simp
   replace F:=F.add hid |>.add hw1 |>.add hle |>.add hset
   refine rK [4,5,6,7,13,14,15] ?_
   refine rEw ?_
   refine hK3 _ ?_
   clear hK3 K3
   refine rEw ?_
   refine ⟨i+1,lf0,v0,v0⟩
  ·
   try simp at hc1
   replace F:=F.add hc1
   refine W.exit ?_
   refine hK1 _ ?_
   clear hK2 K2 hK1 K1
   refine rK [4] ?_
   refine W.ret ?_
   refine er false [] [(20000,80)] ?_
   rw [List.take_of_length_le (by omega)];exact ⟨rfl,rfl⟩
def posD (l:Lett) (x:Int):Nat:=(drawL l.apps).idxOf x
def bidA (a:App) (s:Int):Int:=nth a.bids (a.wishes.idxOf s)
def cmpL (l:Lett) (s a b:Nat):Int:=
  if a=b then 0 else if (nth l.stalls s).heir=a then -1 else if (nth l.stalls s).heir=b then 1
  else if (nth l.stalls s).rule=3∧bidA (nth l.apps b) s≠bidA (nth l.apps a) s then bidA (nth l.apps b) s-bidA (nth l.apps a) s
  else if (nth l.stalls s).rule≠1∧(nth l.apps a).years≠(nth l.apps b).years then (nth l.apps b).years-(nth l.apps a).years
  else (posD l a:Int)-posD l b
def aheadB (l:Lett) (s a b:Nat):Bool:=
  if (nth l.stalls s).heir=a∨(nth l.stalls s).heir=b then decide ((nth l.stalls s).heir=a)
  else if (nth l.stalls s).rule=3∧bidA (nth l.apps b) s≠bidA (nth l.apps a) s then decide (bidA (nth l.apps b) s<bidA (nth l.apps a) s)
  else if (nth l.stalls s).rule≠1∧(nth l.apps a).years≠(nth l.apps b).years then decide ((nth l.apps b).years<(nth l.apps a).years)
  else decide (posD l a<posD l b)
theorem cmpL_ahead {l : Lett} {s a b : Nat} (h : a ≠ b) : decide (cmpL l s a b < 0) = aheadB l s a b := by
  unfold cmpL aheadB
  rw [if_neg h]
  by_cases h1:(nth l.stalls s).heir=a
  · rw [if_pos h1,if_pos (.inl h1)];simp [h1]
  · rw [if_neg h1]
    by_cases h2:(nth l.stalls s).heir=b
    · rw [if_pos h2,if_pos (.inr h2)];simp [h1]
    · simp only [h1,h2,or_self,if_false]
      by_cases h3:(nth l.stalls s).rule=3∧bidA (nth l.apps b) s≠bidA (nth l.apps a) s
      · rw [if_pos h3,if_pos h3,decide_eq_decide];omega
      · rw [if_neg h3,if_neg h3]
        by_cases h4:(nth l.stalls s).rule≠1∧(nth l.apps a).years≠(nth l.apps b).years
        · rw [if_pos h4,if_pos h4,decide_eq_decide];omega
        · rw [if_neg h4,if_neg h4,decide_eq_decide];omega
theorem cmpL_eq {l:Lett}{s a b:Nat}(hs:s<l.stalls.length) (ha:a<l.apps.length) (hb:b<l.apps.length):cmpL l s a b =
    if a=b then 0 else if l.stalls[s].heir=a then -1 else if l.stalls[s].heir=b then 1
    else if l.stalls[s].rule=3∧bidA l.apps[b] s≠bidA l.apps[a] s then bidA l.apps[b] s-bidA l.apps[a] s
    else if l.stalls[s].rule≠1∧l.apps[a].years≠l.apps[b].years then l.apps[b].years-l.apps[a].years
    else (posD l a:Int)-posD l b:=by rw [cmpL,nth_get hs,nth_get ha,nth_get hb]
theorem canS_lt {st:List Stl}{a:App}{s:Int}(h:canS st a s=true):a.wishes.idxOf s<a.wishes.length:=by
  simp only [canS,Bool.and_eq_true,decide_eq_true_eq] at h
  exact List.idxOf_lt_length_iff.2 h.1
theorem posD_lt (l:Lett){x:Nat}(h:x<l.apps.length):posD l x<l.apps.length:=by
  rw [←drawL_len,posD]
  exact List.idxOf_lt_length_iff.2 (mem_drawL.2 (by omega))
theorem getM_pos {l:Lett}{x:Nat}(h:x<l.apps.length):getM (.int .i64 (x:Int)) (ordE 0 (drawL l.apps))=some (I (posD l x:Nat)):=by
  rw [getM_ord,if_pos (mem_drawL.2 (by omega)),posD];simp
theorem compare_ok (l:Lett) (hv:ValidL l) (s a b:Nat) (hs:s<l.stalls.length) (ha:a<l.apps.length) (hb:b<l.apps.length) (hcan:l.stalls[s].rule=3→canS l.stalls l.apps[a] s=true∧canS l.stalls l.apps[b] s=true):ACalls Tryd.prog 22 [.agg [stalls l.stalls,apps l.apps,I s,.map 10000],I a,I b] [(10000,.mp true shI (ordE 0 (drawL l.apps)))] (fun r o=>r=I (cmpL l s a b)∧o=[(10000,.mp true shI (ordE 0 (drawL l.apps)))]):=by
 have F:=Fx.nil
 replace F:=F.add hs |>.add ha |>.add hb
 refine ent Tryd.func22 Tryd.ntmps22 Tryd.results22 ?_
 have hga:=getM_pos ha
 have hgb:=getM_pos hb
 have hpa:=posD_lt l ha
 have hpb:=posD_lt l hb
 have hwa:(Lit.int .i64 (a:Int)).wf=true:=by have:=hv.a8;exact wfI (by omega) (by omega)
 have hwb:(Lit.int .i64 (b:Int)).wf=true:=by have:=hv.a8;exact wfI (by omega) (by omega)
 have h8:=hv.a8
 replace F:=F.add hga |>.add hgb |>.add hpa |>.add hpb |>.add hwa |>.add hwb |>.add h8
 refine rK [1,2,3] ?_
 refine wD 24 [(22,[56]),(23,[64])] [[],[0],[0,1],[],[3],[3,4,1,0,2],[2,0,1,4,3,5],[],[7],[7,8],[],[10,8,7,9],[9,7,8,10,11],[],[13],[13,14],[],[16,14,13,15],[15,13,14,16,17],[],[],[],[21,20,5,3,4,1,0,2,6,19],[19,6,2,0,1,4,3,5,21,22,11,10,8,7,9,12,20],[20,12,9,7,8,10,11,22,5,3,4,1,0,2,6,19,23,17,16,14,13,15,18,21]] ?_
 refine dB [([14,15,18,19,20,21,22,23,24,25,26,27,28,29,7,8,9],[],[]),([14,15,18,19,20,21,22,23,24,25,26,27,28,29,7,8,9],[true],[]),([14,15,18,19,20,21,22,23,24,25,26,27,28,29,7,8,9],[true,true],[]),([11,12,13,18,19,20,21,22,23,24,25,26,27,28,29,7,8,9],[false,false,false],[]),([11,12,13,18,19,20,21,22,23,24,25,26,27,28,29,7,8,9],[false,false,false,true],[]),([18,19,20,21,22,23,24,25,26,27,28,29,7,8,9],[true,true,true,true,true],[]),([18,19,20,21,22,23,24,25,26,27,28,29,7,8,9],[true,true,true,true,true,true],[]),([11,12,13,14,15,16,17,21,24,25,26,27,28,29,7,8,9],[false,false,false,false,false,false,false],[56]),([11,12,13,14,15,16,17,21,24,25,26,27,28,29,7,8,9],[false,false,false,false,false,false,false,true],[56]),([11,12,13,14,15,16,17,21,24,25,26,27,28,29,7,8,9],[false,false,false,false,false,false,false,true,true],[56]),([11,12,13,14,15,16,17,18,19,20,24,25,26,27,28,29,7,8,9],[false,false,false,false,false,false,false,false,false,false],[56]),([11,12,13,14,15,16,17,24,25,26,27,28,29,7,8,9],[false,false,false,false,false,false,false,true,true,true,true],[56]),([11,12,13,14,15,16,17,24,25,26,27,28,29,7,8,9],[false,false,false,false,false,false,false,true,true,true,true,true],[56]),([11,12,13,14,15,16,17,18,19,20,21,22,23,27,7,8,9],[false,false,false,false,false,false,false,false,false,false,false,false,false],[56,64]),([11,12,13,14,15,16,17,18,19,20,21,22,23,27,7,8,9],[false,false,false,false,false,false,false,false,false,false,false,false,false,true],[56,64]),([11,12,13,14,15,16,17,18,19,20,21,22,23,27,7,8,9],[false,false,false,false,false,false,false,false,false,false,false,false,false,true,true],[56,64]),([11,12,13,14,15,16,17,18,19,20,21,22,23,24,25,26,7,8,9],[false,false,false,false,false,false,false,false,false,false,false,false,false,false,false,false],[56,64]),([11,12,13,14,15,16,17,18,19,20,21,22,23,7,8,9],[false,false,false,false,false,false,false,false,false,false,false,false,false,true,true,true,true],[56,64]),([11,12,13,14,15,16,17,18,19,20,21,22,23,7,8,9],[false,false,false,false,false,false,false,false,false,false,false,false,false,true,true,true,true,true],[56,64]),([11,12,13,14,15,16,17,18,19,20,21,22,23,24,25,26,27,28,29,8,9],[false,false,false,false,false,false,false,false,false,false,false,false,false,false,false,false,false,false,false],[]),([11,12,13,14,15,16,17,18,19,20,21,22,23,24,25,26,27,28,29,7,9],[false,false,false,false,false,false,false,false,false,false,false,false,false,false,false,false,false,false,false,false],[]),([11,12,13,14,15,16,17,18,19,20,21,22,23,24,25,26,27,28,29,7,8],[false,false,false,false,false,false,false,false,false,false,false,false,false,false,false,false,false,false,false,false,false],[])] 2 22 ?_
 refine WDraw.upd hΓ [56] (viewB_eq (L:=[18,19,20,21,22,23,24,25,26,27,28,29]) (S:=[true,true,true,true,true,true,true,false,false,false,false,false,false,false,false,false,false,false,false,true,true,true]) (O:=[]) (by kernel_rfl) (by kernel_rfl) (by simp [hs,ha,hb,hga,hgb,hpa,hpb,hwa,hwb,h8];rfl)) (by first | rfl | simp) (by simp [hs,ha,hb,hga,hgb,hpa,hpb,hwa,hwb,h8];first | rfl | exact ⟨rfl,rfl⟩) (by simp [hs,ha,hb,hga,hgb,hpa,hpb,hwa,hwb,h8];first | done | rfl) (.inr (by simp)) (by simp [hs,ha,hb,hga,hgb,hpa,hpb,hwa,hwb,h8];rfl) ?_
 refine WDraw.upd hΓ [64] (viewB_eq (L:=[24,25,26,27,28,29]) (S:=[true,true,true,true,true,true,true,true,true,true,true,true,true,false,false,false,false,false,false,true,true,true,true]) (O:=[]) (by kernel_rfl) (by kernel_rfl) (by simp [hs,ha,hb,hga,hgb,hpa,hpb,hwa,hwb,h8];rfl)) (by first | rfl | simp) (by simp [hs,ha,hb,hga,hgb,hpa,hpb,hwa,hwb,h8];first | rfl | exact ⟨rfl,rfl⟩) (by simp [hs,ha,hb,hga,hgb,hpa,hpb,hwa,hwb,h8];first | done | rfl) (.inr (by simp)) (by simp [hs,ha,hb,hga,hgb,hpa,hpb,hwa,hwb,h8];rfl) ?_
 refine dD ?_
 refine WOps.le Le.dedup rfl rfl ?_
 refine WOps.norm (by simp [hs,ha,hb,hga,hgb,hpa,hpb,hwa,hwb,h8];rfl) ?_
 refine oN 1 ?_
 refine oK [1,2,3,7,8,9] ?_
 refine W.seqk fun K1 hK1=>?_
 refine W.block ?_
 refine rK [1,2,3,7,8,9,30] ?_
 refine it (fun hc1=>?_) (fun hc1=>?_)
 ·
  try simp at hc1
  replace F:=F.add hc1
  refine rK [6] ?_
  refine W.ret ?_
  refine br (tr ?_)
  clear hK1 K1
  refine er false [] [(10000,10000)] ?_
  refine ⟨congrArg I ?_,rfl⟩
  rw [cmpL_eq hs ha hb]
  try (have e1:bidA l.apps[a] (s:Int)=_:=(by rw [bidA,nth_get hka]);have e2:bidA l.apps[b] (s:Int)=_:=(by rw [bidA,nth_get hkb]))
  (repeat' split)<;>omega
 ·
  try simp at hc1
  replace F:=F.add hc1
  refine rK [1,2,3,7,8,9,34] ?_
  refine it (fun hc2=>?_) (fun hc2=>?_)
  ·
   try simp at hc2
   replace F:=F.add hc2
   refine rK [6] ?_
   refine W.ret ?_
   refine br (tr ?_)
   clear hK1 K1
   refine er false [] [(10000,10000)] ?_
   refine ⟨congrArg I ?_,rfl⟩
   rw [cmpL_eq hs ha hb]
   try (have e1:bidA l.apps[a] (s:Int)=_:=(by rw [bidA,nth_get hka]);have e2:bidA l.apps[b] (s:Int)=_:=(by rw [bidA,nth_get hkb]))
   (repeat' split)<;>omega
  ·
   try simp at hc2
   replace F:=F.add hc2
   refine rK [1,2,3,7,8,9,39] ?_
   refine it (fun hc3=>?_) (fun hc3=>?_)
   ·
    try simp at hc3
    replace F:=F.add hc3
    refine rK [6] ?_
    refine W.ret ?_
    refine br (tr ?_)
    clear hK1 K1
    refine er false [] [(10000,10000)] ?_
    refine ⟨congrArg I ?_,rfl⟩
    rw [cmpL_eq hs ha hb]
    try (have e1:bidA l.apps[a] (s:Int)=_:=(by rw [bidA,nth_get hka]);have e2:bidA l.apps[b] (s:Int)=_:=(by rw [bidA,nth_get hkb]))
    (repeat' split)<;>omega
   ·
    try simp at hc3
    replace F:=F.add hc3
    refine W.skip ?_
    refine hK1 _ ?_
    clear hK1 K1
    refine W.seqk fun K2 hK2=>?_
    by_cases hr3:l.stalls[s].rule=3
    ·
     replace F:=F.add hr3
     have hr1:¬l.stalls[s].rule=1:=by omega
     replace F:=F.add hr1
     refine rK [1,2,3,7,8,9,46] ?_
     refine cT ?_
     have qru:l.stalls[s].rule=3:=by assumption
     obtain ⟨qa,qb⟩:=hcan qru
     have hwa2:wishP l.stalls l.apps[a] (s:Int)=((l.apps[a].wishes.idxOf (s:Int):Nat):Int):=by rw [wishP,if_pos qa]
     have hwb2:wishP l.stalls l.apps[b] (s:Int)=((l.apps[b].wishes.idxOf (s:Int):Nat):Int):=by rw [wishP,if_pos qb]
     have qap:=hv.ap _ (List.getElem_mem ha)
     have qbp:=hv.ap _ (List.getElem_mem hb)
     have hka:l.apps[a].wishes.idxOf (s:Int)<l.apps[a].bids.length:=by rw [qap.len];exact canS_lt qa
     have hkb:l.apps[b].wishes.idxOf (s:Int)<l.apps[b].bids.length:=by rw [qbp.len];exact canS_lt qb
     have qba:=qap.bid _ (List.getElem_mem hka)
     have qbb:=qbp.bid _ (List.getElem_mem hkb)
     replace F:=F.add hwa2 |>.add hwb2 |>.add hka |>.add hkb
     refine wD 20 [] [[],[0],[],[2],[],[],[5],[5,6,4,2,3],[3,2,4,6,5,7,0,1],[1,0,7,5,6,4,2,3,8],[],[10],[],[12],[],[],[15],[3,2,4,6,5,7,15,16,14,12,13],[13,12,14,16,15,7,5,6,4,2,3,17,10,11],[11,10,17,3,2,4,6,5,7,15,16,14,12,13,18],[18,13,12,14,16,15,17,10,11,19,8,3,2,4,6,5,7,0,1,9],[9,1,0,7,5,6,4,2,3,8,19,11,10,17,15,16,14,12,13,18,20]] ?_
     refine dB [([49,50,51,52,53,54,57,58,59,60,61,62,63,64,65,66],[],[]),([49,50,51,52,53,54,57,58,59,60,61,62,63,64,65,66],[true],[]),([47,48,51,52,53,57,58,59,60,61,62,63],[false,false],[]),([47,48,51,52,53,57,58,59,60,61,62,63],[false,false,true],[]),([47,48,49,50,52,53,57,58,59,60,61,62,63],[false,false,false,false],[]),([47,48,49,50,51,57,58,59,60,61,62,63],[false,false,false,false,false],[]),([47,48,49,50,51,57,58,59,60,61,62,63],[false,false,false,false,false,true],[])] 13 7 ?_
     refine dC [47,48,57,58,59,60,61,62,63] [false,false,true,true,true,true,true] [] [] ?_
     refine cd (wish_ok l hv b hb s) ?_
     refine dB [([57,58,59,60,61,62,63,64,65,66],[true,true,true,true,true,true,true,true],[]),([57,58,59,60,61,62,63,64,65,66],[true,true,true,true,true,true,true,true,true],[]),([47,48,49,50,51,52,53,54,55,56,59,60,61,62,63,64],[false,false,false,false,false,false,false,false,false,false],[]),([47,48,49,50,51,52,53,54,55,56,59,60,61,62,63,64],[false,false,false,false,false,false,false,false,false,false,true],[]),([47,48,49,50,51,52,53,54,55,56,57,58,61,62,63],[false,false,false,false,false,false,false,false,false,false,false,false],[]),([47,48,49,50,51,52,53,54,55,56,57,58,61,62,63],[false,false,false,false,false,false,false,false,false,false,false,false,true],[]),([47,48,49,50,51,52,53,54,55,56,57,58,59,60,62,63],[false,false,false,false,false,false,false,false,false,false,false,false,false,false],[]),([47,48,49,50,51,52,53,54,55,56,57,58,59,60,61],[false,false,false,false,false,false,false,false,false,false,false,false,false,false,false],[]),([47,48,49,50,51,52,53,54,55,56,57,58,59,60,61],[false,false,false,false,false,false,false,false,false,false,false,false,false,false,false,true],[])] 3 17 ?_
     refine dC [47,48,55,56,57,58] [false,false,true,true,true,true,true,true,false,false,false,false,true,true,true,true,true] [] [] ?_
     refine cd (wish_ok l hv a ha s) ?_
     refine dB [([47,48,55,56],[false,false,true,true,true,true,true,true,false,false,true,true,true,true,true,true,true,true],[]),([47,48,55,56],[false,false,true,true,true,true,true,true,false,false,true,true,true,true,true,true,true,true,true],[])] 0 20 ?_
     refine dD ?_
     refine oNw 2 ?_
     refine oK [1,2,3,7,8,9,10] ?_
     refine rK [1,2,3,7,8,9,10,69] ?_
     refine it (fun hc5=>?_) (fun hc5=>?_)
     ·
      try simp at hc5
      replace F:=F.add hc5
      refine rK [6] ?_
      refine W.ret ?_
      refine tr ?_
      clear hK2 K2
      refine er false [] [(10000,10000)] ?_
      refine ⟨congrArg I ?_,rfl⟩
      rw [cmpL_eq hs ha hb]
      try (have e1:bidA l.apps[a] (s:Int)=_:=(by rw [bidA,nth_get hka]);have e2:bidA l.apps[b] (s:Int)=_:=(by rw [bidA,nth_get hkb]))
      (repeat' split)<;>omega
     ·
      try simp at hc5
      replace F:=F.add hc5
      refine W.skip ?_
      refine hK2 _ ?_
      clear hK2 K2
      refine W.seqk fun K3 hK3=>?_
      by_cases hyf:l.apps[a].years=l.apps[b].years
      ·
       replace F:=F.add hyf
       refine W.seqR ?_
       refine oN 4 ?_
       refine gT ?_
       refine gT ?_
       refine gT ?_
       refine gT ?_
       refine gT ?_
       refine oN 1 ?_
       refine oK [1,2,3,8,9,80] ?_
       refine cF ?_
       refine W.skip ?_
       refine hK3 _ ?_
       clear hK3 K3
       refine rKw [6] ?_
       refine W.ret ?_
       refine er false [] [(10000,10000)] ?_
       refine ⟨congrArg I ?_,rfl⟩
       rw [cmpL_eq hs ha hb]
       try (have e1:bidA l.apps[a] (s:Int)=_:=(by rw [bidA,nth_get hka]);have e2:bidA l.apps[b] (s:Int)=_:=(by rw [bidA,nth_get hkb]))
       (repeat' split)<;>omega
      ·
       replace F:=F.add hyf
       refine W.seqR ?_
       refine oN 4 ?_
       refine gT ?_
       refine gT ?_
       refine gT ?_
       refine gT ?_
       refine gT ?_
       refine oN 1 ?_
       refine oK [1,2,3,8,9,80] ?_
       refine cT ?_
       have qya:=(hv.ap _ (List.getElem_mem ha)).years
       have qyb:=(hv.ap _ (List.getElem_mem hb)).years
       refine rKw [6] ?_
       refine W.ret ?_
       refine tr ?_
       clear hK3 K3
       refine er false [] [(10000,10000)] ?_
       refine ⟨congrArg I ?_,rfl⟩
       rw [cmpL_eq hs ha hb]
       try (have e1:bidA l.apps[a] (s:Int)=_:=(by rw [bidA,nth_get hka]);have e2:bidA l.apps[b] (s:Int)=_:=(by rw [bidA,nth_get hkb]))
       (repeat' split)<;>omega
    ·
     replace F:=F.add hr3
     refine rK [1,2,3,7,8,9,46] ?_
     refine cF ?_
     refine W.skip ?_
     refine hK2 _ ?_
     clear hK2 K2
     refine W.seqk fun K4 hK4=>?_
     by_cases hru:l.stalls[s].rule=1
     ·
      replace F:=F.add hru
      refine W.seqR ?_
      refine oN 4 ?_
      refine gF ?_
      refine gF ?_
      refine gF ?_
      refine gF ?_
      refine gF ?_
      refine oN 1 ?_
      refine oK [1,2,3,8,9,80] ?_
      refine cF ?_
      refine W.skip ?_
      refine hK4 _ ?_
      clear hK4 K4
      refine rKw [6] ?_
      refine W.ret ?_
      refine er false [] [(10000,10000)] ?_
      refine ⟨congrArg I ?_,rfl⟩
      rw [cmpL_eq hs ha hb]
      try (have e1:bidA l.apps[a] (s:Int)=_:=(by rw [bidA,nth_get hka]);have e2:bidA l.apps[b] (s:Int)=_:=(by rw [bidA,nth_get hkb]))
      (repeat' split)<;>omega
     ·
      replace F:=F.add hru
      by_cases hye:l.apps[a].years=l.apps[b].years
      ·
       replace F:=F.add hye
       refine W.seqR ?_
       refine oN 4 ?_
       refine gX ?_
       refine gX ?_
       refine gX ?_
       refine gX ?_
       refine gX ?_
       refine oN 1 ?_
       refine oK [1,2,3,8,9,80] ?_
       refine cF ?_
       refine W.skip ?_
       refine hK4 _ ?_
       clear hK4 K4
       refine rKw [6] ?_
       refine W.ret ?_
       refine er false [] [(10000,10000)] ?_
       refine ⟨congrArg I ?_,rfl⟩
       rw [cmpL_eq hs ha hb]
       try (have e1:bidA l.apps[a] (s:Int)=_:=(by rw [bidA,nth_get hka]);have e2:bidA l.apps[b] (s:Int)=_:=(by rw [bidA,nth_get hkb]))
       (repeat' split)<;>omega
      ·
       replace F:=F.add hye
       refine W.seqR ?_
       refine oN 4 ?_
       refine gX ?_
       refine gX ?_
       refine gX ?_
       refine gX ?_
       refine gX ?_
       refine oN 1 ?_
       refine oK [1,2,3,8,9,80] ?_
       refine cT ?_
       have qya:=(hv.ap _ (List.getElem_mem ha)).years
       have qyb:=(hv.ap _ (List.getElem_mem hb)).years
       refine rKw [6] ?_
       refine W.ret ?_
       refine tr ?_
       clear hK4 K4
       refine er false [] [(10000,10000)] ?_
       refine ⟨congrArg I ?_,rfl⟩
       rw [cmpL_eq hs ha hb]
       try (have e1:bidA l.apps[a] (s:Int)=_:=(by rw [bidA,nth_get hka]);have e2:bidA l.apps[b] (s:Int)=_:=(by rw [bidA,nth_get hkb]))
       (repeat' split)<;>omega
end Go.Sim
