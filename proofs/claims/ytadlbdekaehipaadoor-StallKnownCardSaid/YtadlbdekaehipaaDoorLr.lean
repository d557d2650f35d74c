/- Who envies a stall, and the draw. -/
import Derived.Test.YtadlbdekaehipaaDoorPf
import Derived.Test.YtadlbdekaehipaaDoorLq
import Derived.Test.YtadlbdekaehipaaDoorLj
namespace Go.Sim
set_option maxHeartbeats 4000000
open Go.Proofs
set_option maxRecDepth 100000
set_option linter.unusedSimpArgs false
set_option linter.unusedVariables false
attribute [-simp] List.map_set List.map_take List.map_drop
theorem Draw_ok (l:Lett) (hv:ValidL l):ACalls Tryd.prog 7 [letV l] [] (fun r o=>r = .tup [ints (drawL l.apps),I 0]∧o=[]):=by
 have F:=Fx.nil
 refine ent Tryd.func7 Tryd.ntmps7 Tryd.results7 ?_
 have hck:checkL l=0:=checkL_zero.2 hv
 replace F:=F.add hck
 refine rK [1] ?_
 refine W.seqk fun K1 hK1=>?_
 refine W.seqR ?_
 refine oN 1 ?_
 refine oC [] ?_
 refine ct (Check_ok _) ?_
 refine oN 1 ?_
 refine oK [1,4] ?_
 refine rK [1,4,8] ?_
 refine cF ?_
 refine W.skip ?_
 refine hK1 _ ?_
 clear hK1 K1
 refine W.seqR ?_
 refine oN 1 ?_
 refine oC [] ?_
 refine ct (draw_imm _ hv) ?_
 refine oN 2 ?_
 refine oK [2,3] ?_
 refine W.ret ?_
 exact er0 false [] []
def envR (l:Lett) (h:List Int) (a s:Nat):List (Int×Int):=((List.range s).filter (envB l h a)).map fun s:Nat=>((a:Int),(s:Int))
def envQ (l:Lett) (h:List Int) (a s:Nat):List (Int×Int):=((List.range a).flatMap fun a=>envR l h a l.stalls.length)++envR l h a s
theorem envQ_hit {l:Lett}{h:List Int}{a s:Nat}(e:envB l h a s=true):envQ l h a (s+1)=envQ l h a s++[((a:Int),(s:Int))]:=by
  simp [envQ,envR,List.range_succ,List.filter_append,e]
theorem envQ_miss {l:Lett}{h:List Int}{a s:Nat}(e:envB l h a s=false):envQ l h a (s+1)=envQ l h a s:=by
  simp [envQ,envR,List.range_succ,List.filter_append,e]
theorem envQ_next {l:Lett}{h:List Int}{a:Nat}:envQ l h (a+1) 0=envQ l h a l.stalls.length:=by
  simp [envQ,envR,List.range_succ]
theorem envQ_00 {l:Lett}{h:List Int}:envQ l h 0 0=[]:=rfl
theorem envQ_end {l:Lett}{h:List Int}:envQ l h l.apps.length 0=envL l h:=by simp [envQ,envR,envL]
theorem envR_le {l:Lett}{h:List Int}{a s:Nat}:(envR l h a s).length≤s:=by
  rw [envR,List.length_map]
  have:=List.length_filter_le (envB l h a) (List.range s)
  simpa using this
theorem envQ_le {l:Lett}{h:List Int}{s:Nat}(hs:s≤l.stalls.length) (h8:l.stalls.length≤8):∀ {a:Nat},(envQ l h a s).length≤8 * a+s:=by
  intro a
  have h2:∀a,((List.range a).flatMap fun a=>envR l h a l.stalls.length).length≤8 * a:=by
    intro a
    induction a with
    | zero=>simp
    | succ a ih =>
      rw [List.range_succ,List.flatMap_append,List.length_append]
      have:=envR_le (l:=l) (h:=h) (a:=a) (s:=l.stalls.length)
      simp only [List.flatMap_cons,List.flatMap_nil,List.append_nil]
      omega
  rw [envQ,List.length_append]
  have h3:=h2 a
  have h4:=envR_le (l:=l) (h:=h) (a:=a) (s:=s)
  omega
theorem envB_at {l:Lett}{h:List Int}{a s:Nat}(hs:s<h.length) (ha:a<l.apps.length):envB l h a s=(canS l.stalls l.apps[a] s&&(decide (l.apps[a].wishes.idxOf (s:Int)<placeL l h a)&&(decide (h[s]<0)||!aheadB l s h[s].toNat a))):=by
  rw [envB,nth_get ha,nth_get hs]
theorem placeL_in {l:Lett}{h:List Int}{a:Nat}(ha:a<l.apps.length) (hm:(a:Int)∈h):placeL l h a=l.apps[a].wishes.idxOf ((h.idxOf (a:Int):Nat):Int):=by rw [placeL,if_pos hm,nth_get ha]
theorem placeL_out {l:Lett}{h:List Int}{a:Nat}(ha:a<l.apps.length) (hm:(a:Int) ∉ h):placeL l h a=l.apps[a].wishes.length:=by rw [placeL,if_neg hm,nth_get ha]
theorem wishP_can {st:List Stl}{a:App}{s:Int}(h:canS st a s=true):wishP st a s=(a.wishes.idxOf s:Nat):=if_pos h
theorem wishP_not {st:List Stl}{a:App}{s:Int}(h:¬canS st a s=true):wishP st a s = -1:=if_neg h
theorem HoldOk.at' {l:Lett}{h:List Int}(hk:HoldOk l h){a:Nat}(ha:a<l.apps.length) (hm:(a:Int)∈h):canS l.stalls l.apps[a] ((h.idxOf (a:Int):Nat):Int)=true:=by
  have h1:=List.idxOf_lt_length_iff.2 hm
  have h2:=List.getElem_idxOf h1
  rcases hk.ok _ h1 with q | ⟨b,q1,q2,q3⟩
  · omega
  · have:b=a:=by omega
    subst this
    rwa [nth_get q2] at q3
theorem cmpL_env {l:Lett}{h:List Int}{a b s:Nat}(ha:a<l.apps.length) (hb:b<l.apps.length) (hs:s<h.length) (hk:HoldOk l h) (hsb:h[s]=(b:Int)) (hlt:l.apps[a].wishes.idxOf (s:Int)<placeL l h a):decide (cmpL l s a b<0) = !aheadB l s b a:=by
  have hne:a≠b:=fun e=>by
    subst e
    have hm:(a:Int)∈h:=by rw [←hsb];exact List.getElem_mem hs
    rw [placeL_in ha hm] at hlt
    have h1:=List.idxOf_lt_length_iff.2 hm
    have h2:=List.getElem_idxOf h1
    have:=hk.one _ s a h1 hs h2 hsb
    rw [this] at hlt
    exact Nat.lt_irrefl _ hlt
  rw [cmpL_ahead hne]
  rcases ahead_tot (s:=s) ha hb hne with q | q
  · rw [q,ahead_asym hne q];rfl
  · rw [q,ahead_asym hne.symm q];rfl
theorem Envies_ok (l:Lett) (hv:ValidL l) (h:List Int) (hk:HoldOk l h):ACalls Tryd.prog 12 [letV l,ints h] [] (fun r o=>r = .tup [envs (envL l h),I 0]∧o=[]):=by
 refine ACalls.len (l:=h.map I) (by simp) ⟨_,Tryd.func12,by kernel_rfl,by kernel_rfl⟩ fun hlh=>?_
 simp [maxLen_val] at hlh
 have F:=Fx.nil
 refine ent Tryd.func12 Tryd.ntmps12 Tryd.results12 ?_
 have hch:checkH l h=0:=checkH_zero.2 ⟨hv,hk⟩
 have h8:=hv.a8
 have hs8:=hv.s8
 have hhl:=hk.len
 replace F:=F.add hch |>.add h8 |>.add hs8 |>.add hhl
 refine rK [1,2] ?_
 refine W.seqk fun K1 hK1=>?_
 refine W.seqR ?_
 refine oN 2 ?_
 refine oC [] ?_
 refine ct (CheckHolders_ok _ _) ?_
 refine oN 1 ?_
 refine oK [1,2,6] ?_
 refine rK [1,2,6,17] ?_
 refine cF ?_
 refine W.skip ?_
 refine hK1 _ ?_
 clear hK1 K1
 refine rK [1,2,7] ?_
 refine W.seqk fun K2 hK2=>?_
 refine rK [1,2,7,21,22] ?_
 refine W.block ?_
 refine sn 7 9000 50 2 ?_
 refine lp (α:=Nat) [1,2,21] [26,34,38,48,58,61,68,69] [9000] (fun a=>[(22,I a),(7,.own 9000 0 (envQ l h a 0).length)]) (fun a=>[(9000,.row true 50 2 ((envQ l h a 0).map E2))]) (fun a=>a≤l.apps.length) (fun a=>l.apps.length-a) 0 ?_ ?_ v0 ?_
 ·
  try (simp [Fx.get F])
  all_goals (
   simp [envQ_00]
  )
 ·
  try (simp [Fx.get F])
  all_goals (
   simp [envQ_00]
  )
 ·
  intro a hI0
  simp only [List.cons_append,List.nil_append]
  try dsimp only at hI0
  replace F:=F.add hI0
  refine rK [1,2,7,21,22,23] ?_
  refine W.seqk fun K3 hK3=>?_
  refine it (fun hc2=>?_) (fun hc2=>?_)
  ·
   try simp at hc2
   replace F:=F.add hc2
   refine W.skip ?_
   refine hK3 _ ?_
   clear hK3 K3
   refine W.seqk fun K4 hK4=>?_
   refine W.block ?_
   have ha:a<l.apps.length:=by omega
   replace F:=F.add ha
   refine rK [1,2,7,8,21,22] ?_
   refine rK [1,2,7,8,21,22,25,26,27] ?_
   refine W.block ?_
   refine lpa (α:=Nat) [1,2,8,21,22,25,26] [34,38,48,58,61,68,69] [9000] (fun s=>[(27,I s),(7,.own 9000 0 (envQ l h a s).length)]) (fun s=>[(9000,.row true 50 2 ((envQ l h a s).map E2))]) (fun s=>s≤l.stalls.length) (fun s=>l.stalls.length-s) 0 v0 ?_
   ·
    intro s hI1
    simp only [List.cons_append,List.nil_append]
    try dsimp only at hI1
    replace F:=F.add hI1
    refine rK [1,2,7,8,21,22,25,26,27,28] ?_
    refine W.seqk fun K5 hK5=>?_
    refine it (fun hc3=>?_) (fun hc3=>?_)
    ·
     try simp at hc3
     replace F:=F.add hc3
     refine W.skip ?_
     refine hK5 _ ?_
     clear hK5 K5
     refine W.seqk fun K6 hK6=>?_
     refine W.block ?_
     have hs:s<l.stalls.length:=by omega
     have hsl:s<h.length:=by omega
     have hql:(envQ l h a s).length≤100:=by have:=envQ_le (l:=l) (h:=h) (a:=a) (s:=s) (by omega) hs8;omega
     replace F:=F.add hs |>.add hsl |>.add hql
     refine rK [1,2,7,8,9,10,21,22,25,26,27] ?_
     refine W.seqR ?_
     refine oN 2 ?_
     refine oC [] ?_
     refine ct (IndexI_ok h a) ?_
     refine oN 1 ?_
     refine oK [1,2,7,8,9,10,11,21,22,25,26,27] ?_
     refine W.seqR ?_
     refine oN 3 ?_
     refine oC [] ?_
     refine ct (wish_ok l hv a ha s) ?_
     refine oN 1 ?_
     refine oK [1,2,7,8,9,10,11,12,21,22,25,26,27] ?_
     refine W.seqk fun K7 hK7=>?_
     by_cases hcan:canS l.stalls l.apps[a] s=true
     ·
      replace F:=F.add hcan
      have hwp:=wishP_can hcan
      replace F:=F.add hwp
      by_cases hm:(a:Int)∈h
      ·
       replace F:=F.add hm
       have hwt:=wishP_can (hk.at' ha hm)
       replace F:=F.add hwt
       refine W.seqR ?_
       refine oN 3 ?_
       refine gX ?_
       refine gX ?_
       refine gX ?_
       refine gT ?_
       refine gT ?_
       refine gT ?_
       refine gC [] ?_
       refine ct (wish_ok l hv a ha ((h.idxOf (a:Int):Nat):Int)) ?_
       refine gT ?_
       refine gT ?_
       refine gX ?_
       refine oN 1 ?_
       refine oK [1,2,7,8,9,10,21,22,25,26,27,52] ?_
       refine it (fun hc4=>?_) (fun hc4=>?_)
       ·
        try simp at hc4
        replace F:=F.add hc4
        refine W.exit ?_
        refine hK6 _ ?_
        clear hK7 K7 hK6 K6
        refine rEw ?_
        refine ⟨s+1,lf ?_ ?_,v0,v0⟩
        ·
         try (simp [Fx.get F])
         all_goals (
          have q:envB l h a s=false:=by rw [envB_at hsl ha,hcan,placeL_in ha hm,decide_eq_false (by omega)];rfl
          rw [envQ_miss q]
         )
        ·
         try (simp [Fx.get F])
         all_goals (
          have q:envB l h a s=false:=by rw [envB_at hsl ha,hcan,placeL_in ha hm,decide_eq_false (by omega)];rfl
          rw [envQ_miss q]
         )
       ·
        try simp at hc4
        replace F:=F.add hc4
        refine W.skip ?_
        refine hK7 _ ?_
        clear hK7 K7
        by_cases hneg:h[s]<0
        ·
         replace F:=F.add hneg
         have qpl:l.apps[a].wishes.idxOf (s:Int)<placeL l h a:=by
           first
             | (rw [placeL_in ha hm];omega)
             | (rw [placeL_out ha hm];exact canS_lt hcan)
         have qe:envB l h a s=true:=by rw [envB_at hsl ha,hcan,decide_eq_true qpl,decide_eq_true hneg];rfl
         refine W.seqR ?_
         refine oN 3 ?_
         refine gF ?_
         refine gF ?_
         refine gF ?_
         refine gF ?_
         refine gF ?_
         refine gF ?_
         refine gF ?_
         refine oN 1 ?_
         refine oK [1,2,7,8,9,21,22,25,26,27,63] ?_
         refine cT ?_
         refine rEw ?_
         refine hK6 _ ?_
         clear hK6 K6
         refine rEw ?_
         refine ⟨s+1,lf ?_ ?_,v0,v0⟩
         ·
          try (simp [Fx.get F])
          all_goals (
           rw [envQ_hit qe];simp
          )
         ·
          try (simp [Fx.get F])
          all_goals (
           rw [envQ_hit qe];simp
          )
        ·
         replace F:=F.add hneg
         obtain ⟨b,qb⟩:∃b:Nat,h[s]=(b:Int):=⟨h[s].toNat,by omega⟩
         have hhb:=qb
         have hnb:¬((b:Int)<0):=by omega
         obtain ⟨hbl,hbc⟩:b<l.apps.length∧canS l.stalls (nth l.apps b) s=true:=by
           rcases hk.ok s hsl with q | ⟨c,q1,q2,q3⟩
           · omega
           · have:c=b:=by omega
             subst this;exact ⟨q2,q3⟩
         have hbl':=hbl
         have qpl:l.apps[a].wishes.idxOf (s:Int)<placeL l h a:=by
           first
             | (rw [placeL_in ha hm];omega)
             | (rw [placeL_out ha hm];exact canS_lt hcan)
         have qe:envB l h a s=decide (cmpL l s a b<0):=by
           rw [envB_at hsl ha,hcan,decide_eq_true qpl,decide_eq_false hneg,qb,Int.toNat_natCast,cmpL_env ha hbl hsl hk qb qpl];rfl
         replace F:=F.add hhb |>.add hnb |>.add hbl
         refine W.seqR ?_
         refine oN 3 ?_
         refine gT ?_
         refine gT ?_
         refine gC [] ?_
         refine ct (queueOf_ok _ hv _) ?_
         refine gT ?_
         refine gT ?_
         refine gC [(10000,464)] ?_
         refine ct (compare_ok l hv s a b hs ha hbl (fun _=>⟨hcan,by rw [←nth_get hbl];exact hbc⟩)) ?_
         refine gT ?_
         refine oN 1 ?_
         refine oK [1,2,7,8,9,21,22,25,26,27,63] ?_
         refine it (fun hc6=>?_) (fun hc6=>?_)
         ·
          try simp at hc6
          replace F:=F.add hc6
          refine rEw ?_
          refine hK6 _ ?_
          clear hK6 K6
          refine rEw ?_
          refine ⟨s+1,lf ?_ ?_,v0,v0⟩
          ·
           try (simp [Fx.get F])
           all_goals (
            rw [decide_eq_true (by assumption)] at qe
            rw [envQ_hit qe];simp
           )
          ·
           try (simp [Fx.get F])
           all_goals (
            rw [decide_eq_true (by assumption)] at qe
            rw [envQ_hit qe];simp
           )
         ·
          try simp at hc6
          replace F:=F.add hc6
          refine W.skip ?_
          refine hK6 _ ?_
          clear hK6 K6
          refine rEw ?_
          refine ⟨s+1,lf ?_ ?_,v0,v0⟩
          ·
           try (simp [Fx.get F])
           all_goals (
            rw [decide_eq_false (by omega)] at qe
            rw [envQ_miss qe]
           )
          ·
           try (simp [Fx.get F])
           all_goals (
            rw [decide_eq_false (by omega)] at qe
            rw [envQ_miss qe]
           )
      ·
       replace F:=F.add hm
       refine W.seqR ?_
       refine oN 3 ?_
       refine gX ?_
       refine gX ?_
       refine gX ?_
       refine gF ?_
       refine gF ?_
       refine gF ?_
       refine gF ?_
       refine gF ?_
       refine gF ?_
       refine gX ?_
       refine oN 1 ?_
       refine oK [1,2,7,8,9,10,21,22,25,26,27,52] ?_
       refine cF ?_
       refine W.skip ?_
       refine hK7 _ ?_
       clear hK7 K7
       by_cases hneg:h[s]<0
       ·
        replace F:=F.add hneg
        have qpl:l.apps[a].wishes.idxOf (s:Int)<placeL l h a:=by
          first
            | (rw [placeL_in ha hm];omega)
            | (rw [placeL_out ha hm];exact canS_lt hcan)
        have qe:envB l h a s=true:=by rw [envB_at hsl ha,hcan,decide_eq_true qpl,decide_eq_true hneg];rfl
        refine W.seqR ?_
        refine oN 3 ?_
        refine gF ?_
        refine gF ?_
        refine gF ?_
        refine gF ?_
        refine gF ?_
        refine gF ?_
        refine gF ?_
        refine oN 1 ?_
        refine oK [1,2,7,8,9,21,22,25,26,27,63] ?_
        refine cT ?_
        refine rEw ?_
        refine hK6 _ ?_
        clear hK6 K6
        refine rEw ?_
        refine ⟨s+1,lf ?_ ?_,v0,v0⟩
        ·
         try (simp [Fx.get F])
         all_goals (
          rw [envQ_hit qe];simp
         )
        ·
         try (simp [Fx.get F])
         all_goals (
          rw [envQ_hit qe];simp
         )
       ·
        replace F:=F.add hneg
        obtain ⟨b,qb⟩:∃b:Nat,h[s]=(b:Int):=⟨h[s].toNat,by omega⟩
        have hhb:=qb
        have hnb:¬((b:Int)<0):=by omega
        obtain ⟨hbl,hbc⟩:b<l.apps.length∧canS l.stalls (nth l.apps b) s=true:=by
          rcases hk.ok s hsl with q | ⟨c,q1,q2,q3⟩
          · omega
          · have:c=b:=by omega
            subst this;exact ⟨q2,q3⟩
        have hbl':=hbl
        have qpl:l.apps[a].wishes.idxOf (s:Int)<placeL l h a:=by
          first
            | (rw [placeL_in ha hm];omega)
            | (rw [placeL_out ha hm];exact canS_lt hcan)
        have qe:envB l h a s=decide (cmpL l s a b<0):=by
          rw [envB_at hsl ha,hcan,decide_eq_true qpl,decide_eq_false hneg,qb,Int.toNat_natCast,cmpL_env ha hbl hsl hk qb qpl];rfl
        replace F:=F.add hhb |>.add hnb |>.add hbl
        refine W.seqR ?_
        refine oN 3 ?_
        refine gT ?_
        refine gT ?_
        refine gC [] ?_
        refine ct (queueOf_ok _ hv _) ?_
        refine gT ?_
        refine gT ?_
        refine gC [(10000,464)] ?_
        refine ct (compare_ok l hv s a b hs ha hbl (fun _=>⟨hcan,by rw [←nth_get hbl];exact hbc⟩)) ?_
        refine gT ?_
        refine oN 1 ?_
        refine oK [1,2,7,8,9,21,22,25,26,27,63] ?_
        refine it (fun hc9=>?_) (fun hc9=>?_)
        ·
         try simp at hc9
         replace F:=F.add hc9
         refine rEw ?_
         refine hK6 _ ?_
         clear hK6 K6
         refine rEw ?_
         refine ⟨s+1,lf ?_ ?_,v0,v0⟩
         ·
          try (simp [Fx.get F])
          all_goals (
           rw [decide_eq_true (by assumption)] at qe
           rw [envQ_hit qe];simp
          )
         ·
          try (simp [Fx.get F])
          all_goals (
           rw [decide_eq_true (by assumption)] at qe
           rw [envQ_hit qe];simp
          )
        ·
         try simp at hc9
         replace F:=F.add hc9
         refine W.skip ?_
         refine hK6 _ ?_
         clear hK6 K6
         refine rEw ?_
         refine ⟨s+1,lf ?_ ?_,v0,v0⟩
         ·
          try (simp [Fx.get F])
          all_goals (
           rw [decide_eq_false (by omega)] at qe
           rw [envQ_miss qe]
          )
         ·
          try (simp [Fx.get F])
          all_goals (
           rw [decide_eq_false (by omega)] at qe
           rw [envQ_miss qe]
          )
     ·
      replace F:=F.add hcan
      have hwp:=wishP_not hcan
      replace F:=F.add hwp
      refine W.seqR ?_
      refine oN 3 ?_
      refine gF ?_
      refine gF ?_
      refine gF ?_
      refine gF ?_
      refine gF ?_
      refine gF ?_
      refine gF ?_
      refine gF ?_
      refine gF ?_
      refine gF ?_
      refine oN 1 ?_
      refine oK [1,2,7,8,9,10,21,22,25,26,27,52] ?_
      refine cT ?_
      refine W.exit ?_
      refine hK6 _ ?_
      clear hK7 K7 hK6 K6
      refine rEw ?_
      refine ⟨s+1,lf ?_ ?_,v0,v0⟩
      ·
       try (simp [Fx.get F])
       all_goals (
        have q:envB l h a s=false:=by rw [envB_at hsl ha];simp [hcan]
        rw [envQ_miss q]
       )
      ·
       try (simp [Fx.get F])
       all_goals (
        have q:envB l h a s=false:=by rw [envB_at hsl ha];simp [hcan]
        rw [envQ_miss q]
       )
    ·
     try simp at hc3
     replace F:=F.add hc3
     refine W.exit ?_
     refine hK4 _ ?_
     clear hK5 K5 hK4 K4
     refine rEw ?_
     refine ⟨a+1,lf ?_ ?_,v0,v0⟩
     ·
      try (simp [Fx.get F])
      all_goals (
       rw [envQ_next,show s=l.stalls.length by omega]
      )
     ·
      try (simp [Fx.get F])
      all_goals (
       rw [envQ_next,show s=l.stalls.length by omega]
      )
  ·
   try simp at hc2
   replace F:=F.add hc2
   refine W.exit ?_
   refine hK2 _ ?_
   clear hK3 K3 hK2 K2
   refine rK [4,5] ?_
   refine W.ret ?_
   refine er false [9000] [] ?_
   have e:a=l.apps.length:=by omega
   rw [e,envQ_end]
   exact ⟨rfl,rfl⟩
end Go.Sim
