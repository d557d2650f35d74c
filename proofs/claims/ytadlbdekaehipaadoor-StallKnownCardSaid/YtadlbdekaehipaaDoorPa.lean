/- Applicants and stalls: what is fair, and the best that is fair (plain). -/
set_option linter.all false
set_option linter.unusedVariables false
set_option linter.unusedSimpArgs false
set_option linter.unusedSectionVars false
namespace Go.Market
theorem nodup_subset_length {α:Type} [DecidableEq α]:∀ {l L:List α},l.Nodup→(∀x∈l,x∈L)→l.length≤L.length
  | [],_,_,_=>Nat.zero_le _
  | x :: l, L, hn, hs => by
    have hx:=hs x (by simp)
    have ih:=nodup_subset_length (L:=L.erase x) (List.nodup_cons.1 hn).2 (fun y hy=>by
      have hne:y≠x:=fun e=>(List.nodup_cons.1 hn).1 (e▸hy)
      exact (List.mem_erase_of_ne hne).2 (hs y (by simp [hy])))
    rw [List.length_erase_of_mem hx] at ih
    have:=List.length_pos_of_mem hx
    simp only [List.length_cons];omega
theorem nodup_map {α β:Type}{f:α→β}:∀ {l:List α},l.Nodup→(∀x∈l,∀y∈l,f x=f y→x=y)→(l.map f).Nodup
  | [],_,_=>by simp
  | x :: l,h,hf=>by
    rw [List.map_cons,List.nodup_cons]
    refine ⟨fun hm=>?_,nodup_map (List.nodup_cons.1 h).2 fun a ha b hb=>hf a (by simp [ha]) b (by simp [hb])⟩
    obtain ⟨y,hy,he⟩:=List.mem_map.1 hm
    exact (List.nodup_cons.1 h).1 (hf y (by simp [hy]) x (by simp) he▸hy)
theorem inj_surj {α:Type} [DecidableEq α] {f:α→α}{l:List α}(h:l.Nodup) (hm:∀x∈l,f x∈l) (hf:∀x∈l,∀y∈l,f x=f y→x=y){y:α}(hy:y∈l):∃x∈l,f x=y:=by
  apply Classical.byContradiction
  intro hn
  have h1:=nodup_map h hf
  have h2:=nodup_subset_length (L:=l.erase y) h1 fun z hz=>by
    obtain ⟨x,hx,rfl⟩:=List.mem_map.1 hz
    exact (List.mem_erase_of_ne fun e=>hn ⟨x,hx,e⟩).2 (hm x hx)
  rw [List.length_erase_of_mem hy,List.length_map] at h2
  have:=List.length_pos_of_mem hy
  omega
theorem onto_part {α : Type} [DecidableEq α] {f : α → α} : ∀ (n : Nat) {l : List α}, l.length ≤ n → l.Nodup → l ≠ [] → (∀ x ∈ l, f x ∈ l) → ∃ c : List α, c.Nodup ∧ c ≠ [] ∧ (∀ x ∈ c, x ∈ l) ∧ (∀ x ∈ c, f x ∈ c) ∧ ∀ y ∈ c, ∃ x ∈ c, f x = y
  | 0,l,hl,_,hne,_=>absurd (List.length_eq_zero_iff.1 (by omega)) hne
  | n + 1, l, hl, hd, hne, hm => by
    by_cases hs:∀y∈l,∃x∈l,f x=y
    · exact ⟨l,hd,hne,fun _ h=>h,hm,hs⟩
    · obtain ⟨y,hy,hn⟩:∃y,y∈l∧∀x∈l,f x≠y:=by
        apply Classical.byContradiction
        intro hc
        exact hs fun y hy=>Classical.byContradiction fun h=>hc ⟨y,hy,fun x hx he=>h ⟨x,hx,he⟩⟩
      have h1:(l.filter fun x=>decide (x∈l.map f)).length<l.length:=by
        have:=nodup_subset_length (l:=l.filter fun x=>decide (x∈l.map f)) (L:=l.erase y) (hd.filter _) fun z hz=>by
          obtain ⟨h2,h3⟩:=List.mem_filter.1 hz
          refine (List.mem_erase_of_ne fun e=>?_).2 h2
          subst e
          obtain ⟨x,hx,he⟩:=List.mem_map.1 (of_decide_eq_true h3)
          exact hn x hx he
        rw [List.length_erase_of_mem hy] at this
        have:=List.length_pos_of_mem hy
        omega
      obtain ⟨x0,hx0⟩:=List.exists_mem_of_ne_nil l hne
      obtain ⟨c,c1,c2,c3,c4,c5⟩:=onto_part n (f:=f) (l:=l.filter fun x=>decide (x∈l.map f)) (by omega) (hd.filter _) (fun e=>by
        have:f x0∈l.filter fun x=>decide (x∈l.map f):=List.mem_filter.2 ⟨hm x0 hx0,decide_eq_true (List.mem_map.2 ⟨x0,hx0,rfl⟩)⟩
        rw [e] at this;simp at this) (fun x hx=>by
        have h2:=(List.mem_filter.1 hx).1
        exact List.mem_filter.2 ⟨hm x h2,decide_eq_true (List.mem_map.2 ⟨x,h2,rfl⟩)⟩)
      exact ⟨c,c1,c2,fun x hx=>(List.mem_filter.1 (c3 x hx)).1,c4,c5⟩
structure Mkt where
  n:Nat
  m:Nat
  can:Nat→Nat→Prop
  rk:Nat→Nat→Nat
  wl:Nat→Nat
  ah:Nat→Nat→Nat→Prop
structure Mkt.Ok (M:Mkt):Prop where
  lt:∀a s,a<M.n→s<M.m→M.can a s→M.rk a s<M.wl a
  inj:∀a s t,a<M.n→s<M.m→t<M.m→M.can a s→M.can a t→M.rk a s=M.rk a t→s=t
  irr:∀s a,a<M.n→s<M.m→M.can a s→¬M.ah s a a
  tr:∀s a b c,s<M.m→a<M.n→b<M.n→c<M.n→M.can a s→M.can b s→M.can c s→M.ah s a b→M.ah s b c→M.ah s a c
  tot:∀s a b,s<M.m→a<M.n→b<M.n→M.can a s→M.can b s→a≠b→M.ah s a b∨M.ah s b a
abbrev Hold:=Nat→Option Nat
structure Valid (M:Mkt) (H:Hold):Prop where
  ok:∀s a,H s=some a→s<M.m∧a<M.n∧M.can a s
  one:∀s t a,H s=some a→H t=some a→s=t
def pl (M:Mkt) (H:Hold) (a:Nat):Nat:=match (List.range M.m).find? fun s=>H s == some a with
  | some s=>M.rk a s
  | none=>M.wl a
theorem pl_some {M:Mkt}{H:Hold}(hv:Valid M H){s a:Nat}(h:H s=some a):pl M H a=M.rk a s:=by
  unfold pl
  cases hf:(List.range M.m).find? fun s=>H s==some a with
  | none =>
    have:=List.find?_eq_none.1 hf s (List.mem_range.2 (hv.ok s a h).1)
    simp [h] at this
  | some t =>
    have ht:H t=some a:=by have:=List.find?_some hf;simpa using this
    rw [hv.one s t a h ht]
theorem pl_none {M:Mkt}{H:Hold}{a:Nat}(h:∀s,H s≠some a):pl M H a=M.wl a:=by
  unfold pl
  rw [List.find?_eq_none.2 fun s _=>by simpa using h s]
theorem pl_le {M:Mkt}(hM:M.Ok){H:Hold}(hv:Valid M H) (a:Nat):pl M H a≤M.wl a:=by
  by_cases h:∃s,H s=some a
  · obtain ⟨s,hs⟩:=h
    obtain ⟨h1,h2,h3⟩:=hv.ok s a hs
    rw [pl_some hv hs]
    exact Nat.le_of_lt (hM.lt a s h2 h1 h3)
  · rw [pl_none fun s hs=>h ⟨s,hs⟩];exact Nat.le_refl _
theorem pl_lt {M:Mkt}{H:Hold}{a:Nat}(h:pl M H a<M.wl a):∃s,H s=some a:=by
  apply Classical.byContradiction
  intro hn
  rw [pl_none fun s hs=>hn ⟨s,hs⟩] at h
  omega
structure Blocks (M:Mkt) (H:Hold) (a s:Nat):Prop where
  ha:a<M.n
  hs:s<M.m
  can:M.can a s
  more:M.rk a s<pl M H a
  ah:∀b,H s=some b→M.ah s a b
structure Stable (M:Mkt) (H:Hold):Prop where
  valid:Valid M H
  none:∀a s,¬Blocks M H a s
structure Best (M:Mkt) (H:Hold):Prop where
  st:Stable M H
  best:∀K,Stable M K→∀a,a<M.n→pl M H a≤pl M K a
theorem best_one {M:Mkt}(hM:M.Ok){H K:Hold}(h:Best M H) (k:Best M K):∀s,H s=K s:=by
  have he:∀a,a<M.n→pl M H a=pl M K a:=fun a ha=>Nat.le_antisymm (h.best K k.st a ha) (k.best H h.st a ha)
  have aux:∀ {H K:Hold},Valid M H→Valid M K→(∀a,a<M.n→pl M H a=pl M K a)→∀s a,H s=some a→K s=some a:=by
    intro H K hv kv he s a hs
    obtain ⟨h1,h2,h3⟩:=hv.ok s a hs
    have h4:=he a h2
    rw [pl_some hv hs] at h4
    obtain ⟨t,ht⟩:=pl_lt (M:=M) (H:=K) (a:=a) (by rw [←h4];exact hM.lt a s h2 h1 h3)
    obtain ⟨t1,t2,t3⟩:=kv.ok t a ht
    rw [pl_some kv ht] at h4
    rw [hM.inj a s t h2 h1 t1 h3 t3 h4];exact ht
  intro s
  cases hs:H s with
  | some a=>exact (aux h.st.valid k.st.valid he s a hs).symm
  | none=>cases hk:K s with
    | none=>rfl
    | some b=>have:=aux k.st.valid h.st.valid (fun a ha=>(he a ha).symm) s b hk;rw [hs] at this;cases this
theorem first_of {M : Mkt} (hM : M.Ok) {s : Nat} (hs : s < M.m) : ∀ {l : List Nat}, l ≠ [] → (∀ a ∈ l, a < M.n ∧ M.can a s) → ∃ b ∈ l, ∀ c ∈ l, c ≠ b → M.ah s b c
  | [],h,_=>absurd rfl h
  | [x],_,_=>⟨x,by simp,fun c hc hne=>absurd (by simpa using hc) hne⟩
  | x :: y :: r, _, hl => by
    obtain ⟨b,hb,hbc⟩:=first_of hM hs (l:=y :: r) (by simp) fun a ha=>hl a (by simp only [List.mem_cons] at ha ⊢;exact .inr ha)
    have hx:=hl x (by simp)
    have hb':=hl b (List.mem_cons_of_mem _ hb)
    by_cases he:x=b
    · subst he
      refine ⟨x,by simp,fun c hc hne=>?_⟩
      rcases List.mem_cons.1 hc with rfl | hc
      · exact absurd rfl hne
      · exact hbc c hc hne
    · rcases hM.tot s x b hs hx.1 hb'.1 hx.2 hb'.2 he with h1 | h1
      · refine ⟨x,by simp,fun c hc hne=>?_⟩
        rcases List.mem_cons.1 hc with rfl | hc
        · exact absurd rfl hne
        · by_cases hcb:c=b
          · subst hcb;exact h1
          · have hc':=hl c (List.mem_cons_of_mem _ hc)
            exact hM.tr s x b c hs hx.1 hb'.1 hc'.1 hx.2 hb'.2 hc'.2 h1 (hbc c hc hcb)
      · refine ⟨b,List.mem_cons_of_mem _ hb,fun c hc hne=>?_⟩
        rcases List.mem_cons.1 hc with rfl | hc
        · exact h1
        · exact hbc c hc hne
theorem no_rotation {M:Mkt}(hM:M.Ok){H:Hold}(hB:Best M H){L:List Nat}(hL:L≠[]) (hd:L.Nodup){st nx:Nat→Nat}
    (h1:∀a∈L,H (st a)=some a∧nx a∈L∧M.can (nx a) (st a)∧M.rk (nx a) (st a)<pl M H (nx a)∧∀c,c<M.n→M.can c (st a)→M.rk c (st a)<pl M H c→c≠nx a→M.ah (st a) (nx a) c):False:=by
  obtain ⟨C,c1,c2,c3,c4,c5⟩:=onto_part (f:=nx) L.length (Nat.le_refl _) hd hL fun x hx=>(h1 x hx).2.1
  have hv:=hB.st.valid
  have hinj:∀x∈C,∀y∈C,nx x=nx y→x=y:=by
    intro x hx y hy hxy
    apply Classical.byContradiction
    intro hne
    have hch:∀z∈C,∃u∈C,nx u=z∧u≠x:=fun z hz=>by
      obtain ⟨u,hu,he⟩:=c5 z hz
      by_cases hux:u=x
      · subst hux;exact ⟨y,hy,by rw [←hxy];exact he,fun e=>hne e.symm⟩
      · exact ⟨u,hu,he,hux⟩
    let g:Nat→Nat:=fun z=>if h:z∈C then Classical.choose (hch z h) else z
    have hg:∀z (h:z∈C),g z∈C∧nx (g z)=z∧g z≠x:=fun z h=>by
      have:=Classical.choose_spec (hch z h)
      simp only [g,dif_pos h];exact this
    have h2:=nodup_map (f:=g) c1 fun a ha b hb e=>by rw [←(hg a ha).2.1,←(hg b hb).2.1,e]
    have h3:=nodup_subset_length (L:=C.erase x) h2 fun z hz=>by
      obtain ⟨u,hu,rfl⟩:=List.mem_map.1 hz
      exact (List.mem_erase_of_ne (hg u hu).2.2).2 (hg u hu).1
    rw [List.length_erase_of_mem hx,List.length_map] at h3
    have:=List.length_pos_of_mem hx
    omega
  let K:Hold:=fun s=>match H s with
    | some a=>if a∈C then some (nx a) else some a
    | none=>none
  have hK1:∀s a,H s=some a→a∈C→K s=some (nx a):=fun s a h hc=>by show (match H s with | some a=>if a∈C then some (nx a) else some a | none=>none)=_;rw [h];simp [hc]
  have hK2:∀s a,H s=some a→a ∉ C→K s=some a:=fun s a h hc=>by show (match H s with | some a=>if a∈C then some (nx a) else some a | none=>none)=_;rw [h];simp [hc]
  have hK3:∀s,H s=none→K s=none:=fun s h=>by show (match H s with | some a=>if a∈C then some (nx a) else some a | none=>none)=_;rw [h]
  have hKi:∀s x,K s=some x→(∃a,H s=some a∧a∈C∧x=nx a)∨(H s=some x∧x ∉ C):=fun s x h=>by
    cases hs:H s with
    | none=>rw [hK3 s hs] at h;cases h
    | some a =>
      by_cases hc:a∈C
      · rw [hK1 s a hs hc] at h;cases h;exact .inl ⟨a,rfl,hc,rfl⟩
      · rw [hK2 s a hs hc] at h;cases h;exact .inr ⟨rfl,hc⟩
  have hst:∀s a,H s=some a→a∈C→s=st a:=fun s a h hc=>hv.one s (st a) a h (h1 a (c3 a hc)).1
  have hKv:Valid M K:=by
    refine ⟨fun s x h=>?_,fun s t x h k=>?_⟩
    · rcases hKi s x h with ⟨a,h2,h3,rfl⟩ | ⟨h2,_⟩
      · have h4:=h1 a (c3 a h3)
        obtain ⟨q1,q2,q3⟩:=hv.ok s a h2
        have h5:=hst s a h2 h3
        have h6:=h1 (nx a) (c3 _ (c4 a h3))
        exact ⟨q1,(hv.ok _ _ h6.1).2.1,by rw [h5];exact h4.2.2.1⟩
      · exact hv.ok s x h2
    · rcases hKi s x h with ⟨a,h2,h3,rfl⟩ | ⟨h2,h3⟩
      · rcases hKi t _ k with ⟨b,k2,k3,k4⟩ | ⟨k2,k3⟩
        · have:=hinj a h3 b k3 k4
          subst this
          exact hv.one s t a h2 k2
        · exact absurd (c4 a h3) k3
      · rcases hKi t x k with ⟨b,k2,k3,rfl⟩ | ⟨k2,k3⟩
        · exact absurd (c4 b k3) h3
        · exact hv.one s t x h2 k2
  have hlt:∀x∈C,pl M K x<pl M H x:=fun x hx=>by
    obtain ⟨a,ha,rfl⟩:=c5 x hx
    have h4:=h1 a (c3 a ha)
    rw [pl_some hKv (hK1 (st a) a h4.1 ha)]
    exact h4.2.2.2.1
  have hle:∀x,pl M K x≤pl M H x:=fun x=>by
    by_cases hx:x∈C
    · exact Nat.le_of_lt (hlt x hx)
    · by_cases hs:∃s,H s=some x
      · obtain ⟨s,hs⟩:=hs
        rw [pl_some hv hs,pl_some hKv (hK2 s x hs hx)];exact Nat.le_refl _
      · rw [pl_none fun s h=>hs ⟨s,h⟩]
        exact pl_le hM hKv x
  have hKs:Stable M K:=by
    refine ⟨hKv,fun c s hb=>?_⟩
    have hm:=Nat.lt_of_lt_of_le hb.more (hle c)
    cases hs:H s with
    | none=>exact hB.st.none c s ⟨hb.ha,hb.hs,hb.can,hm,fun b h=>by rw [hs] at h;cases h⟩
    | some a =>
      by_cases ha:a∈C
      · have h4:=h1 a (c3 a ha)
        have h5:=hst s a hs ha
        have h6:=hb.ah (nx a) (hK1 s a hs ha)
        have h7:=(hv.ok _ _ (h1 (nx a) (c3 _ (c4 a ha))).1).2.1
        by_cases hc:c=nx a
        · subst hc;exact hM.irr s _ hb.ha hb.hs hb.can h6
        · have h8:=h4.2.2.2.2 c hb.ha (by rw [←h5];exact hb.can) (by rw [←h5];exact hm) hc
          rw [←h5] at h8
          exact hM.irr s c hb.ha hb.hs hb.can (hM.tr s c (nx a) c hb.hs hb.ha h7 hb.ha hb.can (by rw [h5];exact h4.2.2.1) hb.can h6 h8)
      · refine hB.st.none c s ⟨hb.ha,hb.hs,hb.can,hm,fun b h=>?_⟩
        rw [hs] at h;cases h
        exact hb.ah a (hK2 s a hs ha)
  obtain ⟨x,hx⟩:=List.exists_mem_of_ne_nil C c2
  have h4:=hlt x hx
  have h5:=hB.best K hKs x (hv.ok _ _ (h1 x (c3 x hx)).1).2.1
  omega
theorem blocking {M : Mkt} (hM : M.Ok) {H K : Hold} (hB : Best M H) (hK : Valid M K) {a : Nat} (ha : a < M.n) (hm : pl M K a < pl M H a) :
    ∃b s c,Blocks M K b s∧pl M H b≤pl M K b∧K s=some c∧pl M K c<pl M H c:=by
  apply Classical.byContradiction
  intro hno
  have hv:=hB.st.valid
  have hno' : ∀b s c,Blocks M K b s→K s=some c→pl M K c<pl M H c→pl M K b<pl M H b:=fun b s c h1 h2 h3=>Classical.byContradiction fun h4=>hno ⟨b,s,c,h1,by omega,h2,h3⟩
  let L:=(List.range M.n).filter fun x=>decide (pl M K x<pl M H x)
  have hL:∀x,x∈L↔x<M.n∧pl M K x<pl M H x:=fun x=>by simp [L]
  have hks:∀x∈L,∃s,K s=some x:=fun x hx=>pl_lt (Nat.lt_of_lt_of_le ((hL x).1 hx).2 (pl_le hM hv x))
  let ks:Nat→Nat:=fun x=>if h:x∈L then Classical.choose (hks x h) else 0
  have hks' : ∀x,x∈L→K (ks x)=some x:=fun x h=>by
    have:=Classical.choose_spec (hks x h)
    simp only [ks,dif_pos h];exact this
  have hheld:∀x∈L,∃b∈L,H (ks x)=some b:=by
    intro x hx
    obtain ⟨x1,x2⟩:=(hL x).1 hx
    obtain ⟨k1,k2,k3⟩:=hK.ok _ _ (hks' x hx)
    rw [pl_some hK (hks' x hx)] at x2
    cases hs:H (ks x) with
    | none=>exact absurd ⟨x1,k1,k3,x2,fun b h=>by rw [hs] at h;cases h⟩ (hB.st.none x (ks x))
    | some b =>
      refine ⟨b, ?_,rfl⟩
      obtain ⟨b1,b2,b3⟩:=hv.ok _ _ hs
      have hbx:b≠x:=fun e=>by subst e;rw [pl_some hv hs] at x2;omega
      have hah:M.ah (ks x) b x:=by
        rcases hM.tot (ks x) b x k1 b2 x1 b3 k3 hbx with h | h
        · exact h
        · exact absurd ⟨x1,k1,k3,x2,fun c hc=>by rw [hs] at hc;cases hc;exact h⟩ (hB.st.none x (ks x))
      rw [hL]
      refine ⟨b2,Classical.byContradiction fun hn=>?_⟩
      have h3:M.rk b (ks x)<pl M K b:=by
        have h4:M.rk b (ks x)≤pl M K b:=by rw [←pl_some hv hs];omega
        rcases Nat.lt_or_eq_of_le h4 with h5 | h5
        · exact h5
        · exfalso
          have h6:M.rk b (ks x)<M.wl b:=hM.lt b _ b2 k1 b3
          rw [h5] at h6
          obtain ⟨t,ht⟩:=pl_lt h6
          rw [pl_some hK ht] at h5
          obtain ⟨t1,t2,t3⟩:=hK.ok _ _ ht
          have:=hM.inj b (ks x) t b2 k1 t1 b3 t3 h5
          rw [←this,hks' x hx] at ht
          cases ht;exact hbx rfl
      have:=hno' b (ks x) x ⟨b2,k1,b3,h3,fun c hc=>by rw [hks' x hx] at hc;cases hc;exact hah⟩ (hks' x hx) ((hL x).1 hx).2
      exact hn this
  let hb:Nat→Nat:=fun x=>if h:x∈L then Classical.choose (hheld x h) else 0
  have hhb:∀x,x∈L→hb x∈L∧H (ks x)=some (hb x):=fun x h=>by
    have:=Classical.choose_spec (hheld x h)
    simp only [hb,dif_pos h];exact this
  have hLd:L.Nodup:=List.Pairwise.filter _ List.nodup_range
  have hsurj:∀y∈L,∃x∈L,hb x=y:=fun y hy=>inj_surj hLd (fun x hx=>(hhb x hx).1) (fun x hx z hz e=>by
    have h1:=(hhb x hx).2
    have h2:=(hhb z hz).2
    rw [←e] at h2
    have h3:=hv.one _ _ _ h1 h2
    have h4:=hks' x hx
    rw [h3,hks' z hz] at h4
    cases h4;rfl) hy
  have hst:∀y∈L,∃s x,H s=some y∧x∈L∧K s=some x:=fun y hy=>by
    obtain ⟨x,hx,he⟩:=hsurj y hy
    exact ⟨ks x,x,by rw [(hhb x hx).2,he],hx,hks' x hx⟩
  have hnx:∀y∈L,∃s b,H s=some y∧b∈L∧M.can b s∧M.rk b s<pl M H b∧∀c,c<M.n→M.can c s→M.rk c s<pl M H c→c≠b→M.ah s b c:=by
    intro y hy
    obtain ⟨s,x,h1,h2,h3⟩:=hst y hy
    obtain ⟨s1,s2,s3⟩:=hK.ok s x h3
    obtain ⟨x1,x2⟩:=(hL x).1 h2
    rw [pl_some hK h3] at x2
    have hdec:∀c,Decidable (M.can c s):=fun c=>Classical.propDecidable _
    let W:=(List.range M.n).filter fun c=>decide (M.can c s∧M.rk c s<pl M H c)
    have hW:∀c,c∈W↔c<M.n∧M.can c s∧M.rk c s<pl M H c:=fun c=>by simp [W]
    have hxW:x∈W:=(hW x).2 ⟨x1,s3,x2⟩
    obtain ⟨b,b1,b2⟩:=first_of hM s1 (l:=W) (fun e=>by rw [e] at hxW;simp at hxW) fun c hc=>⟨((hW c).1 hc).1,((hW c).1 hc).2.1⟩
    obtain ⟨b3,b4,b5⟩:=(hW b).1 b1
    refine ⟨s,b,h1, ?_,b4,b5,fun c c1 c2 c3 c4=>b2 c ((hW c).2 ⟨c1,c2,c3⟩) c4⟩
    by_cases hbx:b=x
    · subst hbx;exact h2
    · rw [hL]
      refine ⟨b3,Classical.byContradiction fun hn=>hn ?_⟩
      exact hno' b s x ⟨b3,s1,b4,by omega,fun c hc=>by rw [h3] at hc;cases hc;exact b2 x hxW fun e=>hbx e.symm⟩ h3 ((hL x).1 h2).2
  let st:Nat→Nat:=fun y=>if h:y∈L then Classical.choose (hnx y h) else 0
  have hst2:∀y (h:y∈L),∃b,H (st y)=some y∧b∈L∧M.can b (st y)∧M.rk b (st y)<pl M H b∧∀c,c<M.n→M.can c (st y)→M.rk c (st y)<pl M H c→c≠b→M.ah (st y) b c:=fun y h=>by
    have:=Classical.choose_spec (hnx y h)
    simp only [st,dif_pos h];exact this
  let nx:Nat→Nat:=fun y=>if h:y∈L then Classical.choose (hst2 y h) else 0
  have haL:a∈L:=(hL a).2 ⟨ha,hm⟩
  refine no_rotation hM hB (L:=L) (st:=st) (nx:=nx) (fun e=>by rw [e] at haL;simp at haL) hLd fun y h=>?_
  have:=Classical.choose_spec (hst2 y h)
  simp only [nx,dif_pos h];exact this
/-! asking, one wish after the other -/
def put {α:Type}(f:Nat→α) (a:Nat) (v:α):Nat→α:=fun x=>if x=a then v else f x
theorem put_same {α:Type}(f:Nat→α) (a:Nat) (v:α):put f a v a=v:=if_pos rfl
theorem put_other {α:Type}(f:Nat→α){a x:Nat}(v:α) (h:x≠a):put f a v x=f x:=if_neg h
structure DA (M:Mkt) (H:Hold) (p:Nat→Nat):Prop where
  valid:Valid M H
  hold:∀s a,H s=some a→M.rk a s=p a
  rej:∀a s,a<M.n→s<M.m→M.can a s→M.rk a s<p a→∃b,H s=some b∧M.ah s b a
  opt:∀K,Stable M K→∀a s,K s=some a→p a≤M.rk a s
theorem DA.init (M:Mkt):DA M (fun _=>none) (fun _=>0):=
  ⟨⟨fun _ _ h=>(by cases h),fun _ _ _ h=>(by cases h)⟩,fun _ _ h=>(by cases h),fun _ _ _ _ _ h=>(by omega),fun _ _ _ _ _=>Nat.zero_le _⟩
theorem DA.raise {M:Mkt}{H:Hold}{p:Nat→Nat}(h:DA M H p){a k:Nat}(hf:∀s,H s≠some a) (hk:∀s,s<M.m→M.can a s→p a≤M.rk a s→k≤M.rk a s):DA M H (put p a k):=by
  refine ⟨h.valid,fun s b hb=>?_,fun b s h1 h2 h3 h4=>?_,fun K hK b s hb=>?_⟩
  · have hne:b≠a:=fun e=>hf s (e▸hb)
    rw [put_other _ _ hne];exact h.hold s b hb
  · by_cases hba:b=a
    · subst hba
      rw [put_same] at h4
      refine h.rej b s h1 h2 h3 (Nat.lt_of_not_le fun hn=>?_)
      have:=hk s h2 h3 hn;omega
    · rw [put_other _ _ hba] at h4;exact h.rej b s h1 h2 h3 h4
  · by_cases hba:b=a
    · subst hba
      rw [put_same]
      obtain ⟨k1,k2,k3⟩:=hK.valid.ok s b hb
      exact hk s k1 k3 (h.opt K hK b s hb)
    · rw [put_other _ _ hba];exact h.opt K hK b s hb
theorem DA.never {M:Mkt}(hM:M.Ok){H:Hold}{p:Nat→Nat}(h:DA M H p){K:Hold}(hK:Stable M K){a b s:Nat}(hb:M.rk b s=p b) (hbn:b<M.n) (hcb:M.can b s) (hab:M.ah s b a) (hne:b≠a):K s≠some a:=by
  intro hk
  obtain ⟨k1,k2,k3⟩:=hK.valid.ok s a hk
  refine hK.none b s ⟨hbn,k1,hcb, ?_,fun c hc=>by rw [hk] at hc;cases hc;exact hab⟩
  by_cases hs:∃t,K t=some b
  · obtain ⟨t,ht⟩:=hs
    have h1:=h.opt K hK b t ht
    obtain ⟨t1,t2,t3⟩:=hK.valid.ok t b ht
    rw [pl_some hK.valid ht]
    rcases Nat.lt_or_eq_of_le h1 with h2 | h2
    · omega
    · exfalso
      have:=hM.inj b s t hbn k1 t1 hcb t3 (by omega)
      subst this
      rw [hk] at ht;cases ht;exact hne rfl
  · rw [pl_none fun t ht=>hs ⟨t,ht⟩]
    exact hM.lt b s hbn k1 hcb
theorem DA.refuse {M : Mkt} (hM : M.Ok) {H : Hold} {p : Nat → Nat} (h : DA M H p) {a b s : Nat} (ha : a < M.n) (hs : s < M.m) (hf : ∀ s, H s ≠ some a) (hc : M.can a s) (hr : M.rk a s = p a) (hb : H s = some b) (hab : M.ah s b a) : DA M H (put p a (p a + 1)) := by
  have hne:b≠a:=fun e=>hf s (e▸hb)
  obtain ⟨b1,b2,b3⟩:=h.valid.ok s b hb
  refine ⟨h.valid,fun t c hc'=>?_,fun c t h1 h2 h3 h4=>?_,fun K hK c t hc'=>?_⟩
  · have hca:c≠a:=fun e=>hf t (e▸hc')
    rw [put_other _ _ hca];exact h.hold t c hc'
  · by_cases hca:c=a
    · subst hca
      rw [put_same] at h4
      by_cases h5:M.rk c t<p c
      · exact h.rej c t h1 h2 h3 h5
      · have:=hM.inj c s t h1 hs h2 hc h3 (by omega)
        subst this
        exact ⟨b,hb,hab⟩
    · rw [put_other _ _ hca] at h4;exact h.rej c t h1 h2 h3 h4
  · by_cases hca:c=a
    · subst hca
      rw [put_same]
      have h1:=h.opt K hK c t hc'
      rcases Nat.lt_or_eq_of_le h1 with h2 | h2
      · omega
      · exfalso
        obtain ⟨t1,t2,t3⟩:=hK.valid.ok t c hc'
        have:=hM.inj c s t ha hs t1 hc t3 (by omega)
        subst this
        exact h.never hM hK (h.hold s b hb) b2 b3 hab hne hc'
    · rw [put_other _ _ hca];exact h.opt K hK c t hc'
theorem Valid.put {M:Mkt}{H:Hold}(hv:Valid M H){a s:Nat}(ha:a<M.n) (hs:s<M.m) (hf:∀s,H s≠some a) (hc:M.can a s):Valid M (Go.Market.put H s (some a)):=by
  refine ⟨fun t b hb=>?_,fun t u b hb hb'=>?_⟩
  · by_cases hts:t=s
    · subst hts;rw [put_same] at hb;cases hb;exact ⟨hs,ha,hc⟩
    · rw [put_other _ _ hts] at hb;exact hv.ok t b hb
  · by_cases hts:t=s<;>by_cases hus:u=s
    · rw [hts,hus]
    · subst hts;rw [put_same] at hb;cases hb;rw [put_other _ _ hus] at hb';exact absurd hb' (hf u)
    · subst hus;rw [put_same] at hb';cases hb';rw [put_other _ _ hts] at hb;exact absurd hb (hf t)
    · rw [put_other _ _ hts] at hb;rw [put_other _ _ hus] at hb';exact hv.one t u b hb hb'
theorem DA.take {M:Mkt}{H:Hold}{p:Nat→Nat}(h:DA M H p){a s:Nat}(ha:a<M.n) (hs:s<M.m) (hf:∀s,H s≠some a) (hc:M.can a s) (hr:M.rk a s=p a) (hb:H s=none):DA M (put H s (some a)) p:=by
  refine ⟨h.valid.put ha hs hf hc,fun t c hc'=>?_,fun c t h1 h2 h3 h4=>?_,h.opt⟩
  · by_cases hts:t=s
    · subst hts;rw [put_same] at hc';cases hc';exact hr
    · rw [put_other _ _ hts] at hc';exact h.hold t c hc'
  · obtain ⟨b,h5,h6⟩:=h.rej c t h1 h2 h3 h4
    have hts:t≠s:=fun e=>by subst e;rw [hb] at h5;cases h5
    exact ⟨b,by rw [put_other _ _ hts];exact h5,h6⟩
theorem DA.bump {M : Mkt} (hM : M.Ok) {H : Hold} {p : Nat → Nat} (h : DA M H p) {a b s : Nat} (ha : a < M.n) (hs : s < M.m) (hf : ∀ s, H s ≠ some a) (hc : M.can a s) (hr : M.rk a s = p a) (hb : H s = some b) (hab : M.ah s a b) : DA M (put H s (some a)) (put p b (p b + 1)) := by
  have hne:a≠b:=fun e=>hf s (e▸hb)
  obtain ⟨b1,b2,b3⟩:=h.valid.ok s b hb
  refine ⟨h.valid.put ha hs hf hc,fun t c hc'=>?_,fun c t h1 h2 h3 h4=>?_,fun K hK c t hc'=>?_⟩
  · by_cases hts:t=s
    · subst hts;rw [put_same] at hc';cases hc';rw [put_other _ _ hne];exact hr
    · rw [put_other _ _ hts] at hc'
      have hcb:c≠b:=fun e=>by subst e;exact hts (h.valid.one t s c hc' hb)
      rw [put_other _ _ hcb];exact h.hold t c hc'
  · -- those who were refused
    have old:M.rk c t<p c→∃x,put H s (some a) t=some x∧M.ah t x c:=fun h5=>by
      obtain ⟨x,h6,h7⟩:=h.rej c t h1 h2 h3 h5
      by_cases hts:t=s
      · subst hts
        rw [hb] at h6;cases h6
        exact ⟨a,put_same _ _ _,hM.tr t a b c hs ha b2 h1 hc b3 h3 hab h7⟩
      · exact ⟨x,by rw [put_other _ _ hts];exact h6,h7⟩
    by_cases hcb:c=b
    · subst hcb
      rw [put_same] at h4
      by_cases h5:M.rk c t<p c
      · exact old h5
      · have:=hM.inj c s t b2 hs h2 b3 h3 (by rw [h.hold s c hb];omega)
        subst this
        exact ⟨a,put_same _ _ _,hab⟩
    · rw [put_other _ _ hcb] at h4;exact old h4
  · by_cases hcb:c=b
    · subst hcb
      rw [put_same]
      have h1:=h.opt K hK c t hc'
      rcases Nat.lt_or_eq_of_le h1 with h2 | h2
      · omega
      · exfalso
        obtain ⟨t1,t2,t3⟩:=hK.valid.ok t c hc'
        have:=hM.inj c s t b2 hs t1 b3 t3 (by rw [h.hold s c hb];omega)
        subst this
        exact h.never hM hK hr ha hc hab hne hc'
    · rw [put_other _ _ hcb];exact h.opt K hK c t hc'
theorem DA.final {M : Mkt} (hM : M.Ok) {H : Hold} {p : Nat → Nat} (h : DA M H p) (hend : ∀ a, a < M.n → (∃ s, H s = some a) ∨ ∀ s, s < M.m → M.can a s → M.rk a s < p a) : Best M H := by
  have hrej:∀a s,a<M.n→s<M.m→M.can a s→M.rk a s<pl M H a→M.rk a s<p a:=fun a s h1 h2 h3 h4=>by
    rcases hend a h1 with ⟨t,ht⟩ | h5
    · rw [pl_some h.valid ht,h.hold t a ht] at h4;exact h4
    · exact h5 s h2 h3
  refine ⟨⟨h.valid,fun a s hb=>?_⟩,fun K hK a ha=>?_⟩
  · obtain ⟨b,h1,h2⟩:=h.rej a s hb.ha hb.hs hb.can (hrej a s hb.ha hb.hs hb.can hb.more)
    have h3:=hb.ah b h1
    obtain ⟨b1,b2,b3⟩:=h.valid.ok s b h1
    exact hM.irr s a hb.ha hb.hs hb.can (hM.tr s a b a hb.hs hb.ha b2 hb.ha hb.can b3 hb.can h3 h2)
  · by_cases hs:∃s,K s=some a
    · obtain ⟨s,hs⟩:=hs
      obtain ⟨k1,k2,k3⟩:=hK.valid.ok s a hs
      rw [pl_some hK.valid hs]
      exact Nat.le_of_not_lt fun hn=>by
        have:=hrej a s ha k1 k3 hn
        have:=h.opt K hK a s hs
        omega
    · rw [pl_none fun s h=>hs ⟨s,h⟩]
      exact pl_le hM h.valid a
#print axioms DA.final
#print axioms blocking
end Go.Market
