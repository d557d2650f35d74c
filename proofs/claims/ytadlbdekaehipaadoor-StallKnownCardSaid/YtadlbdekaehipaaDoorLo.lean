/- Holders that may be. -/
import Derived.Test.YtadlbdekaehipaaDoorLj
namespace Go.Sim
open Go.Proofs
set_option maxRecDepth 100000
set_option linter.unusedSimpArgs false
set_option linter.unusedVariables false
attribute [-simp] List.map_set List.map_take List.map_drop
def holdE (l:Lett) (h:List Int) (s:Nat):Int:=
  if nth h s = -1 then 0 else if ¬(0≤nth h s∧nth h s≤(l.apps.length:Int)-1) then 3
  else if nth h s∈h.take s then 4 else if canS l.stalls (nth l.apps (nth h s).toNat) s=true then 0 else 9
def holdErr (l:Lett) (h:List Int):Int:=firstNZ (holdE l h) (List.range h.length)
def checkH (l:Lett) (h:List Int):Int:=if checkL l≠0 then checkL l else if h.length≠l.stalls.length then 2 else holdErr l h
theorem hold_hit {l:Lett}{h:List Int}{i:Nat}(hi:i<h.length) (he:holdErr l h=firstNZ (holdE l h) ((List.range h.length).drop i)){e:Int}(hg:holdE l h i=e) (hz:e≠0):holdErr l h=e:=by
  rw [he,firstNZ_hit (by simpa using hi) (by simpa [hg] using hz)];simpa using hg
theorem hold_skip {l:Lett}{h:List Int}{i:Nat}(hi:i<h.length) (he:holdErr l h=firstNZ (holdE l h) ((List.range h.length).drop i)) (hg:holdE l h i=0):holdErr l h=firstNZ (holdE l h) ((List.range h.length).drop (i+1)):=by
  rw [he,firstNZ_skip (by simpa using hi) (by simpa using hg)]
theorem hold_done {l:Lett}{h:List Int}{i:Nat}(hi:h.length≤i) (he:holdErr l h=firstNZ (holdE l h) ((List.range h.length).drop i)):holdErr l h=0:=by
  rw [he,firstNZ_done (by simpa using hi)]
theorem checkH_v {l:Lett}{h:List Int}(h1:checkL l=0) (h2:h.length=l.stalls.length):checkH l h=holdErr l h:=by simp [checkH,h1,h2]
theorem holdE_no {l:Lett}{h:List Int}{i:Nat}(hi:i<h.length) (h0:h[i] = -1):holdE l h i=0:=by rw [holdE,nth_get hi,if_pos h0]
theorem holdE_out {l:Lett}{h:List Int}{i:Nat}(hi:i<h.length) (h0:¬h[i] = -1) (h1:¬(0≤h[i]∧h[i]≤(l.apps.length:Int)-1)):holdE l h i=3:=by rw [holdE,nth_get hi,if_neg h0,if_pos h1]
theorem holdE_two {l:Lett}{h:List Int}{i:Nat}(hi:i<h.length) (h1:0≤h[i]∧h[i]≤(l.apps.length:Int)-1) (h2:h[i]∈h.take i):holdE l h i=4:=by rw [holdE,nth_get hi,if_neg (by omega),if_neg (by simpa using h1),if_pos h2]
theorem holdE_can {l:Lett}{h:List Int}{i a:Nat}(hi:i<h.length) (ha:h[i]=(a:Int)) (hal:a<l.apps.length) (h2:h[i] ∉ h.take i):holdE l h i=if canS l.stalls l.apps[a] i=true then 0 else 9:=by
  rw [holdE,nth_get hi,if_neg (by omega),if_neg (by omega),if_neg h2,ha,Int.toNat_natCast,nth_get hal]
theorem wishP_neg {st:List Stl}{a:App}{s:Int}:wishP st a s<0↔¬canS st a s=true:=by
  unfold wishP
  split
  · rename_i h;simp [h]
  · rename_i h;simp [h]
set_option maxHeartbeats 4000000 in
theorem CheckHolders_ok (l:Lett) (h:List Int):ACalls Tryd.prog 11 [letV l,ints h] [] (fun r o=>r=I (checkH l h)∧o=[]):=by
 refine ACalls.len (l:=h.map I) (by simp) ⟨_,Tryd.func11,by kernel_rfl,by kernel_rfl⟩ fun hlh=>?_
 simp [maxLen_val] at hlh
 have F:=Fx.nil
 refine ent (M:=outMode) Tryd.func11 Tryd.ntmps11 Tryd.results11 ?_
 refine rK (M:=outMode) [1,2] ?_
 refine W.seqk (M:=outMode) fun K1 hK1=>?_
 refine W.seqR (M:=outMode) ?_
 refine oN 1 ?_
 refine oC [] ?_
 refine ct (Check_ok _) ?_
 refine oN 1 ?_
 refine oK (M:=outMode) [1,2,5] ?_
 refine rK (M:=outMode) [1,2,5,11] ?_
 refine it (M:=outMode) (fun hc1=>?_) (fun hc1=>?_)
 ·
  try simp at hc1
  replace F:=F.add hc1
  refine rK (M:=outMode) [4] ?_
  refine W.ret (M:=outMode) ?_
  refine tr ?_
  clear hK1 K1
  refine er false [] [] ?_
  exact ⟨congrArg I (by rw [checkH,if_pos hc1]),rfl⟩
 ·
  try simp at hc1
  replace F:=F.add hc1
  refine W.skip (M:=outMode) ?_
  refine hK1 _ ?_
  clear hK1 K1
  refine W.seqk (M:=outMode) fun K2 hK2=>?_
  have hv:ValidL l:=checkL_zero.1 (by omega)
  have hv0:checkL l=0:=by omega
  have hs8:=hv.s8
  have h8:=hv.a8
  have hw1:IntKind.i64.wrap ((l.apps.length:Int)-1)=(l.apps.length:Int)-1:=wrap_i64 (by omega) (by omega)
  replace F:=F.add hv |>.add hv0 |>.add hs8 |>.add h8 |>.add hw1
  refine rK (M:=outMode) [1,2,18] ?_
  refine it (M:=outMode) (fun hc2=>?_) (fun hc2=>?_)
  ·
   try simp at hc2
   replace F:=F.add hc2
   refine rK (M:=outMode) [4] ?_
   refine W.ret (M:=outMode) ?_
   refine tr ?_
   clear hK2 K2
   refine er false [] [] ?_
   exact ⟨congrArg I (by rw [checkH,if_neg (by simp [hv0]),if_pos (by omega)]),rfl⟩
  ·
   try simp at hc2
   replace F:=F.add hc2
   refine W.skip (M:=outMode) ?_
   refine hK2 _ ?_
   clear hK2 K2
   refine W.seqk (M:=outMode) fun K3 hK3=>?_
   refine rK (M:=outMode) [1,2,19,20,21] ?_
   refine W.block (M:=outMode) ?_
   refine lpa (M:=outMode) (α:=Nat) [1,2,19,20] [33,35,42,47] [] (fun i=>[(21,I i)]) (fun i=>[]) (fun i=>i≤h.length∧holdErr l h=firstNZ (holdE l h) ((List.range h.length).drop i)) (fun i=>h.length-i) 0 ?_ ?_
   ·
    exact ⟨Nat.zero_le _,rfl⟩
   ·
    intro i hI0
    simp only [List.cons_append,List.nil_append]
    try dsimp only at hI0
    obtain ⟨hi,hm1⟩:=hI0
    replace F:=F.add hi
    refine rK (M:=outMode) [1,2,19,20,21,22] ?_
    refine W.seqk (M:=outMode) fun K4 hK4=>?_
    refine it (M:=outMode) (fun hc3=>?_) (fun hc3=>?_)
    ·
     try simp at hc3
     replace F:=F.add hc3
     refine W.skip (M:=outMode) ?_
     refine hK4 _ ?_
     clear hK4 K4
     refine W.seqk (M:=outMode) fun K5 hK5=>?_
     refine W.block (M:=outMode) ?_
     have hil:i<h.length:=by omega
     replace F:=F.add hil
     refine rK (M:=outMode) [1,2,6,7,19,20,21] ?_
     refine W.block (M:=outMode) ?_
     refine rK (M:=outMode) [1,2,6,7,19,20,21,26] ?_
     refine it (M:=outMode) (fun hc4=>?_) (fun hc4=>?_)
     ·
      try simp at hc4
      replace F:=F.add hc4
      refine W.skip (M:=outMode) ?_
      refine hK5 _ ?_
      clear hK5 K5
      refine rEw (M:=outMode) ?_
      refine ⟨i+1,lf0, ?_,v0⟩
      ·
       refine ⟨by omega,hold_skip hil hm1 ?_⟩
       exact holdE_no hil (by omega)
     ·
      try simp at hc4
      replace F:=F.add hc4
      refine W.seqR (M:=outMode) ?_
      refine oN 5 ?_
      refine oC [] ?_
      refine ct (in_ok _ _ _) ?_
      refine oN 2 ?_
      refine oK (M:=outMode) [1,2,6,7,19,20,21,29] ?_
      refine it (M:=outMode) (fun hc5=>?_) (fun hc5=>?_)
      ·
       try simp at hc5
       replace F:=F.add hc5
       refine rK (M:=outMode) [4] ?_
       refine W.ret (M:=outMode) ?_
       refine br (br (tr (tr (br (tr ?_)))))
       clear hK5 K5 hK3 K3
       refine er false [] [] ?_
       exact ⟨congrArg I (by rw [checkH_v hv0 (by omega),hold_hit hil hm1 (holdE_out hil (by omega) (by omega)) (by decide)]),rfl⟩
      ·
       try simp at hc5
       replace F:=F.add hc5
       obtain ⟨a,qa⟩:∃a:Nat,h[i]=(a:Int):=⟨h[i].toNat,by omega⟩
       have ha:a<l.apps.length:=by omega
       replace F:=F.add ha
       refine W.seqR (M:=outMode) ?_
       refine oN 4 ?_
       refine oC [] ?_
       refine ct (ContainsI_ok _ _) ?_
       refine oN 1 ?_
       refine oK (M:=outMode) [1,2,6,7,19,20,21,37] ?_
       refine it (M:=outMode) (fun hc6=>?_) (fun hc6=>?_)
       ·
        try simp at hc6
        replace F:=F.add hc6
        refine rK (M:=outMode) [4] ?_
        refine W.ret (M:=outMode) ?_
        refine br (br (tr (tr (br (tr ?_)))))
        clear hK5 K5 hK3 K3
        refine er false [] [] ?_
        exact ⟨congrArg I (by rw [checkH_v hv0 (by omega),hold_hit hil hm1 (holdE_two hil (by omega) (by first | assumption | (rw [qa];assumption))) (by decide)]),rfl⟩
       ·
        try simp at hc6
        replace F:=F.add hc6
        have hha:=qa
        replace F:=F.add hha
        refine W.seqR (M:=outMode) ?_
        refine oN 3 ?_
        refine oC [] ?_
        refine ct (wish_ok l hv a ha i) ?_
        refine oN 2 ?_
        refine oK (M:=outMode) [1,2,19,20,21,43] ?_
        refine it (M:=outMode) (fun hc7=>?_) (fun hc7=>?_)
        ·
         try simp at hc7
         replace F:=F.add hc7
         refine rK (M:=outMode) [4] ?_
         refine W.ret (M:=outMode) ?_
         refine br (br (tr (tr (br (tr ?_)))))
         clear hK5 K5 hK3 K3
         refine er false [] [] ?_
         exact ⟨congrArg I (by rw [checkH_v hv0 (by omega),hold_hit hil hm1 (by rw [holdE_can hil qa ha (by first | assumption | (rw [qa];assumption)),if_neg (by first | assumption | exact wishP_neg.1 (by assumption) | (simp;assumption))]) (by decide)]),rfl⟩
        ·
         try simp at hc7
         replace F:=F.add hc7
         refine W.skip (M:=outMode) ?_
         refine hK5 _ ?_
         clear hK5 K5
         refine rEw (M:=outMode) ?_
         refine ⟨i+1,lf0, ?_,v0⟩
         ·
          refine ⟨by omega,hold_skip hil hm1 ?_⟩
          (rw [holdE_can hil qa ha (by first | assumption | (rw [qa];assumption)),if_pos (by first | assumption | (apply Classical.byContradiction;intro hn;have:=wishP_neg.2 hn;omega))])
    ·
     try simp at hc3
     replace F:=F.add hc3
     refine W.exit (M:=outMode) ?_
     refine hK3 _ ?_
     clear hK4 K4 hK3 K3
     refine rK (M:=outMode) [4] ?_
     refine W.ret (M:=outMode) ?_
     refine er false [] [] ?_
     exact ⟨congrArg I (by rw [checkH_v hv0 (by omega),hold_done (by omega) hm1]),rfl⟩
end Go.Sim
