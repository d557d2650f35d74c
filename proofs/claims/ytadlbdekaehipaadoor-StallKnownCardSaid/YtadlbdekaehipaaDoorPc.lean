/- How the program lets applicants ask: what holds from one to the next (plain). -/
import Derived.Test.YtadlbdekaehipaaDoorPb
set_option linter.all false
set_option linter.unusedVariables false
set_option linter.unusedSimpArgs false
set_option linter.unusedSectionVars false
namespace Go.Sim
open Go.Market
def holdL (h:List Int):Hold:=fun s=>match h[s]? with
  | some x=>if 0≤x then some x.toNat else none
  | none=>none
theorem holdL_some {h:List Int}{s a:Nat}:holdL h s=some a↔∃hs:s<h.length,h[s]=(a:Int):=by
  unfold holdL
  constructor
  · intro e
    split at e
    · rename_i x hx
      obtain ⟨h1,h2⟩:=List.getElem?_eq_some_iff.1 hx
      split at e
      · cases e;exact ⟨h1,by rw [h2];omega⟩
      · cases e
    · cases e
  · rintro ⟨hs,he⟩
    rw [List.getElem?_eq_getElem hs,he]
    simp
theorem holdL_none {h:List Int}{s:Nat}(hs:s<h.length) (hn:¬0≤h[s]):holdL h s=none:=by
  unfold holdL
  rw [List.getElem?_eq_getElem hs]
  simp [hn]
theorem mem_holdL {h:List Int}{a:Nat}:(a:Int)∈h↔∃s,holdL h s=some a:=by
  constructor
  · intro hm
    obtain ⟨s,hs,he⟩:=List.getElem_of_mem hm
    exact ⟨s,holdL_some.2 ⟨hs,he⟩⟩
  · rintro ⟨s,hs⟩
    obtain ⟨h1,h2⟩:=holdL_some.1 hs
    rw [←h2];exact List.getElem_mem h1
theorem holdL_set {h:List Int}{s a:Nat}(hs:s<h.length):holdL (h.set s (a:Int))=put (holdL h) s (some a):=by
  funext t
  by_cases ht:t=s
  · subst ht
    rw [put_same]
    exact holdL_some.2 ⟨by simpa using hs,by simp⟩
  · rw [put_other _ _ ht]
    unfold holdL
    rw [List.getElem?_set_ne (Ne.symm ht)]
def ptr (h nx:List Int) (a:Nat):Nat:=if (a:Int)∈h then (nth nx a).toNat-1 else (nth nx a).toNat
structure Asking (l:Lett) (h nx fr:List Int):Prop where
  hl:h.length=l.stalls.length
  nl:nx.length=l.apps.length
  da:DA (mktL l) (holdL h) (ptr h nx)
  hr:∀x∈h,x = -1∨(0≤x∧x<l.apps.length)
  nr:∀a,a<l.apps.length→0≤nth nx a∧nth nx a≤(nth l.apps a).wishes.length
  held:∀a,a<l.apps.length→(a:Int)∈h→1≤nth nx a
  fd:fr.Nodup
  ff:∀x∈fr,(0≤x∧x<l.apps.length)∧x ∉ h
  ex:∀a,a<l.apps.length→(a:Int) ∉ fr→(a:Int) ∉ h→∀s,s<l.stalls.length→canS l.stalls (nth l.apps a) s=true→(nth l.apps a).wishes.idxOf (s:Int)<(nth nx a).toNat
theorem nth_replicate {α:Type} [NthD α] {n a:Nat}{x:α}(h:a<n):nth (List.replicate n x) a=x:=by rw [nth_get (by simpa using h)];simp
theorem asking0 (l:Lett):Asking l (List.replicate l.stalls.length (-1)) (List.replicate l.apps.length 0) (drawL l.apps):=by
  have hno:∀a:Nat,((a:Nat):Int) ∉ List.replicate l.stalls.length (-1:Int):=fun a hm=>by have:=List.eq_of_mem_replicate hm;omega
  have hh:holdL (List.replicate l.stalls.length (-1))=fun _=>none:=by
    funext s
    cases hs:holdL (List.replicate l.stalls.length (-1)) s with
    | none=>rfl
    | some a=>exact absurd (mem_holdL.2 ⟨s,hs⟩) (hno a)
  have hp:ptr (List.replicate l.stalls.length (-1)) (List.replicate l.apps.length 0)=fun _=>0:=by
    funext a
    rw [ptr,if_neg (hno a)]
    by_cases ha:a<l.apps.length
    · rw [nth_replicate ha];rfl
    · simp [nth,List.getD_eq_getElem?_getD,List.getElem?_eq_none (show (List.replicate l.apps.length (0:Int)).length≤a by simp;omega),NthD.d]
  refine ⟨by simp,by simp,by rw [hh,hp];exact DA.init _,fun x hx=>.inl (List.eq_of_mem_replicate hx),fun a ha=>by rw [nth_replicate ha];omega,fun a _ hm=>absurd hm (hno a),drawL_nodup _,fun x hx=>⟨mem_drawL.1 hx,fun hm=>by have:=List.eq_of_mem_replicate hm;have:=mem_drawL.1 hx;omega⟩,fun a ha hn=>absurd (mem_drawL.2 (by omega)) hn⟩
theorem nth_set_same {α:Type} [NthD α] {l:List α}{i:Nat}{v:α}(h:i<l.length):nth (l.set i v) i=v:=by rw [nth_get (by simpa using h)];simp
theorem nth_set_other {α:Type} [NthD α] {l:List α}{i j:Nat}{v:α}(h:j≠i):nth (l.set i v) j=nth l j:=by simp [nth,List.getD_eq_getElem?_getD,List.getElem?_set_ne (Ne.symm h)]
theorem ptr_free {h nx:List Int}{a:Nat}{v:Nat}(ha:a<nx.length) (hf:(a:Int) ∉ h):ptr h (nx.set a (v:Int))=put (ptr h nx) a v:=by
  funext b
  by_cases hb:b=a
  · subst hb;rw [put_same,ptr,if_neg hf,nth_set_same ha];rfl
  · rw [put_other _ _ hb,ptr,ptr,nth_set_other hb]
theorem Asking.free {l:Lett}{h nx fr:List Int}(k:Asking l h nx fr){a:Nat}(ha:(a:Int)∈fr):a<l.apps.length∧(a:Int) ∉ h∧∀s,holdL h s≠some a:=by
  obtain ⟨h1,h2⟩:=k.ff _ ha
  exact ⟨by omega,h2,fun s hs=>h2 (mem_holdL.2 ⟨s,hs⟩)⟩
theorem Asking.raise {l:Lett}{h nx fr:List Int}(k:Asking l h nx fr){a v:Nat}(ha:(a:Int)∈fr) (hv:v≤(nth l.apps a).wishes.length) (hk:∀s,s<l.stalls.length→canS l.stalls (nth l.apps a) s=true→(nth nx a).toNat≤(nth l.apps a).wishes.idxOf (s:Int)→v≤(nth l.apps a).wishes.idxOf (s:Int)):Asking l h (nx.set a (v:Int)) fr:=by
  obtain ⟨h1,h2,h3⟩:=k.free ha
  have hal:a<nx.length:=by rw [k.nl];exact h1
  have hpa:ptr h nx a=(nth nx a).toNat:=by rw [ptr,if_neg h2]
  refine ⟨k.hl,by simpa using k.nl, ?_,k.hr,fun b hb=>?_,fun b hb hm=>?_,k.fd,k.ff,fun b hb hn hm s hs hc=>?_⟩
  · rw [ptr_free hal h2]
    exact k.da.raise h3 fun s hs hc hle=>hk s hs hc (by rw [←hpa];exact hle)
  · by_cases hba:b=a
    · subst hba;rw [nth_set_same hal];omega
    · rw [nth_set_other hba];exact k.nr b hb
  · have hba:b≠a:=fun e=>h2 (e▸hm)
    rw [nth_set_other hba];exact k.held b hb hm
  · have hba:b≠a:=fun e=>hn (e▸ha)
    rw [nth_set_other hba];exact k.ex b hb hn hm s hs hc
theorem Asking.refuse {l:Lett}(hv:ValidL l){h nx fr:List Int}(k:Asking l h nx fr){a b s:Nat}(ha:(a:Int)∈fr) (hs:s<l.stalls.length) (hc:canS l.stalls (nth l.apps a) s=true) (hr:(nth nx a).toNat=(nth l.apps a).wishes.idxOf (s:Int)) (hb:holdL h s=some b) (hab:aheadB l s b a=true) :
    Asking l h (nx.set a (((nth l.apps a).wishes.idxOf (s:Int)+1:Nat):Int)) fr:=by
  obtain ⟨h1,h2,h3⟩:=k.free ha
  have hal:a<nx.length:=by rw [k.nl];exact h1
  have hpa:ptr h nx a=(nth nx a).toNat:=by rw [ptr,if_neg h2]
  have hne:b≠a:=fun e=>h3 s (e▸hb)
  refine ⟨k.hl,by simpa using k.nl, ?_,k.hr,fun b hb=>?_,fun b hb hm=>?_,k.fd,k.ff,fun b hb hn hm s hs hc=>?_⟩
  · rw [ptr_free hal h2]
    have:=k.da.refuse (mkt_ok hv) (a:=a) (b:=b) (s:=s) h1 hs h3 hc (by rw [hpa,hr];rfl) hb ⟨hne,hab⟩
    rwa [hpa,hr] at this
  · by_cases hba:b=a
    · subst hba;rw [nth_set_same hal]
      have:=canS_lt hc
      omega
    · rw [nth_set_other hba];exact k.nr b hb
  · have hba:b≠a:=fun e=>h2 (e▸hm)
    rw [nth_set_other hba];exact k.held b hb hm
  · have hba:b≠a:=fun e=>hn (e▸ha)
    rw [nth_set_other hba];exact k.ex b hb hn hm s hs hc
theorem Asking.keep {l : Lett} (hv : ValidL l) {h nx fr : List Int} {a : Nat} (k : Asking l h nx ((a : Int) :: fr)) {s : Nat} (hs : s < l.stalls.length) (hc : canS l.stalls (nth l.apps a) s = true) (hr : (nth nx a).toNat = (nth l.apps a).wishes.idxOf (s : Int)) (hx : ∀ b, holdL h s = some b → aheadB l s a b = true) :
    Asking l (h.set s (a:Int)) (nx.set a (((nth l.apps a).wishes.idxOf (s:Int)+1:Nat):Int)) (fr++if 0≤nth h s then [nth h s] else []):=by
  have ham:(a:Int)∈(a:Int) :: fr:=by simp
  obtain ⟨h1,h2,h3⟩:=k.free ham
  have hal:a<nx.length:=by rw [k.nl];exact h1
  have hsl:s<h.length:=by rw [k.hl];exact hs
  have hpa:ptr h nx a=(nth nx a).toNat:=by rw [ptr,if_neg h2]
  have hM:=mkt_ok hv
  have hone:=k.da.valid.one
  have hmem:∀b:Nat,(b:Int)∈h.set s (a:Int)↔b=a∨((b:Int)∈h∧holdL h s≠some b):=fun b=>by
    rw [mem_holdL,holdL_set hsl]
    constructor
    · rintro ⟨t,ht⟩
      by_cases hts:t=s
      · subst hts;rw [put_same] at ht;cases ht;exact .inl rfl
      · rw [put_other _ _ hts] at ht
        exact .inr ⟨mem_holdL.2 ⟨t,ht⟩,fun e=>hts (hone t s b ht e)⟩
    · rintro (rfl | ⟨hm,hn⟩)
      · exact ⟨s,put_same _ _ _⟩
      · obtain ⟨t,ht⟩:=mem_holdL.1 hm
        have hts:t≠s:=fun e=>hn (e▸ht)
        exact ⟨t,by rw [put_other _ _ hts];exact ht⟩
  have hfr:a ∉ (fr.map Int.toNat)∨True:=.inr trivial
  have hnd:=List.nodup_cons.1 k.fd
  have hbump:∀b,holdL h s=some b→nth h s=(b:Int)∧b<l.apps.length∧b≠a∧(b:Int) ∉ fr∧1≤nth nx b:=fun b hb=>by
    obtain ⟨_,e⟩:=holdL_some.1 hb
    have hbm:(b:Int)∈h:=mem_holdL.2 ⟨s,hb⟩
    have hbl:=(k.da.valid.ok s b hb).2.1
    exact ⟨by rw [nth_get hsl,e],hbl,fun e=>h2 (e▸hbm),fun hm=>(k.ff _ (List.mem_cons_of_mem _ hm)).2 hbm,k.held b hbl hbm⟩
  have hptr : ptr (h.set s (a : Int)) (nx.set a (((nth l.apps a).wishes.idxOf (s : Int) + 1 : Nat) : Int)) = match holdL h s with
      | some b=>put (ptr h nx) b (ptr h nx b+1)
      | none=>ptr h nx:=by
    funext c
    by_cases hca:c=a
    · subst hca
      rw [ptr,if_pos ((hmem c).2 (.inl rfl)),nth_set_same hal]
      have e1:(((nth l.apps c).wishes.idxOf (s:Int)+1:Nat):Int).toNat-1=ptr h nx c:=by rw [hpa,hr];omega
      rw [e1]
      cases hb:holdL h s with
      | none=>rfl
      | some b=>simp only;rw [put_other _ _ (hbump b hb).2.2.1.symm]
    · rw [ptr,nth_set_other hca]
      cases hb:holdL h s with
      | none =>
        simp only
        rw [ptr]
        have:(c:Int)∈h.set s (a:Int)↔(c:Int)∈h:=by rw [hmem c,hb];simp [hca]
        simp only [this]
      | some b =>
        simp only
        by_cases hcb:c=b
        · subst hcb
          have hbm:(c:Int)∈h:=mem_holdL.2 ⟨s,hb⟩
          rw [put_same,if_neg (by rw [hmem c,hb];simp [hca]),ptr,if_pos hbm]
          have:=(hbump c hb).2.2.2.2
          omega
        · rw [put_other _ _ hcb,ptr]
          have:(c:Int)∈h.set s (a:Int)↔(c:Int)∈h:=by
            rw [hmem c,hb];simp only [hca,false_or,ne_eq,Option.some.injEq]
            exact ⟨fun x=>x.1,fun x=>⟨x,fun e=>hcb e.symm⟩⟩
          simp only [this]
  have hvac:∀x:Int,x∈(if 0≤nth h s then [nth h s] else [])↔∃b,holdL h s=some b∧x=(b:Int):=fun x=>by
    constructor
    · intro hx
      split at hx
      · rename_i h0
        obtain rfl:=List.mem_singleton.1 hx
        rw [nth_get hsl] at h0 ⊢
        exact ⟨h[s].toNat,holdL_some.2 ⟨hsl,by omega⟩,by omega⟩
      · simp at hx
    · rintro ⟨b,hb,rfl⟩
      rw [(hbump b hb).1,if_pos (by omega)];simp
  refine ⟨by simpa using k.hl,by simpa using k.nl, ?_,fun x hx=>?_,fun b hb=>?_,fun b hb hm=>?_, ?_,fun x hx=>?_,fun b hb hn hm t ht hc'=>?_⟩
  · rw [holdL_set hsl,hptr]
    cases hb:holdL h s with
    | none=>exact k.da.take h1 hs h3 hc (by rw [hpa,hr];rfl) hb
    | some b=>exact k.da.bump hM h1 hs h3 hc (by rw [hpa,hr];rfl) hb ⟨(hbump b hb).2.2.1.symm,hx b hb⟩
  · rcases List.mem_or_eq_of_mem_set hx with hx | rfl
    · exact k.hr x hx
    · exact .inr (by omega)
  · by_cases hba:b=a
    · subst hba;rw [nth_set_same hal]
      have:=canS_lt hc
      omega
    · rw [nth_set_other hba];exact k.nr b hb
  · by_cases hba:b=a
    · subst hba;rw [nth_set_same hal];omega
    · rw [nth_set_other hba]
      exact k.held b hb (((hmem b).1 hm).resolve_left hba).1
  · rw [List.nodup_append]
    refine ⟨hnd.2,by split<;>simp,fun x hx y hy e=>?_⟩
    subst e
    obtain ⟨b,hb,rfl⟩:=(hvac x).1 hy
    exact (hbump b hb).2.2.2.1 hx
  · rcases List.mem_append.1 hx with hx | hx
    · obtain ⟨q1,q2⟩:=k.ff x (List.mem_cons_of_mem _ hx)
      refine ⟨q1,fun hm=>?_⟩
      rcases List.mem_or_eq_of_mem_set hm with hm | rfl
      · exact q2 hm
      · exact hnd.1 hx
    · obtain ⟨b,hb,rfl⟩:=(hvac x).1 hx
      have:=hbump b hb
      exact ⟨by omega,fun hm=>(((hmem b).1 hm).resolve_left this.2.2.1).2 hb⟩
  · have hba:b≠a:=fun e=>hm ((hmem b).2 (.inl e))
    rw [nth_set_other hba]
    have hnb:holdL h s≠some b:=fun e=>hn (List.mem_append_right _ ((hvac _).2 ⟨b,e,rfl⟩))
    refine k.ex b hb (fun hm'=>?_) (fun hm'=>hm ((hmem b).2 (.inr ⟨hm',hnb⟩))) t ht hc'
    rcases List.mem_cons.1 hm' with e | e
    · exact hba (by omega)
    · exact hn (List.mem_append_left _ e)
theorem Asking.done {l:Lett}{h nx fr:List Int}{a:Nat}(k:Asking l h nx ((a:Int) :: fr)) (he:∀s,s<l.stalls.length→canS l.stalls (nth l.apps a) s=true→(nth l.apps a).wishes.idxOf (s:Int)<(nth nx a).toNat):Asking l h nx fr:=by
  refine ⟨k.hl,k.nl,k.da,k.hr,k.nr,k.held,(List.nodup_cons.1 k.fd).2,fun x hx=>k.ff x (List.mem_cons_of_mem _ hx),fun b hb hn hm s hs hc=>?_⟩
  by_cases hba:b=a
  · subst hba;exact he s hs hc
  · exact k.ex b hb (fun hm'=>(List.mem_cons.1 hm').elim (fun e=>hba (by omega)) hn) hm s hs hc
theorem Asking.best {l:Lett}(hv:ValidL l){h nx:List Int}(k:Asking l h nx []):Best (mktL l) (holdL h):=by
  refine k.da.final (mkt_ok hv) fun a ha=>?_
  by_cases hm:(a:Int)∈h
  · exact .inl (mem_holdL.1 hm)
  · right
    intro s hs hc
    rw [ptr,if_neg hm]
    exact k.ex a ha (by simp) hm s hs hc
structure BestL (l:Lett) (h:List Int):Prop where
  len:h.length=l.stalls.length
  rng:∀x∈h,x = -1∨(0≤x∧x<l.apps.length)
  best:Best (mktL l) (holdL h)
theorem bestL_one {l:Lett}(hv:ValidL l){h k:List Int}(hh:BestL l h) (hk:BestL l k):h=k:=by
  have:=best_one (mkt_ok hv) hh.best hk.best
  refine List.ext_getElem (by rw [hh.len,hk.len]) fun s h1 h2=>?_
  have e:=this s
  rcases hh.rng _ (List.getElem_mem h1) with q | q
  · rw [holdL_none h1 (by omega)] at e
    rcases hk.rng _ (List.getElem_mem h2) with q' | q'
    · omega
    · rw [holdL_some.2 ⟨h2,show k[s]=((k[s].toNat:Nat):Int) by omega⟩] at e;cases e
  · rw [holdL_some.2 ⟨h1,show h[s]=((h[s].toNat:Nat):Int) by omega⟩] at e
    obtain ⟨_,e2⟩:=holdL_some.1 e.symm
    omega
#print axioms bestL_one
end Go.Sim
