/- How the reference lets applicants ask (plain). -/
import Derived.Test.YtadlbdekaehipaaDoorPd
set_option linter.all false
set_option linter.unusedVariables false
set_option linter.unusedSimpArgs false
set_option linter.unusedSectionVars false
namespace Go.Sim
open Go.Market
def nxF (nx:List Int):Nat→Nat:=fun a=>(nth nx a).toNat
theorem nxF_set {nx:List Int}{a v:Nat}(ha:a<nx.length):nxF (nx.set a (v:Int))=put (nxF nx) a v:=by
  funext b
  by_cases hb:b=a
  · subst hb;rw [put_same,nxF,nth_set_same ha];rfl
  · rw [put_other _ _ hb,nxF,nth_set_other hb];rfl
structure RAsk (l:Lett) (g nx:List Int) (i:Nat) (c:Int):Prop where
  hl:g.length=l.stalls.length
  nl:nx.length=l.apps.length
  da:DA (mktL l) (holdL g) (nxF nx)
  hr:∀x∈g,x = -1∨(0≤x∧x<l.apps.length)
  nr:∀a,a<l.apps.length→0≤nth nx a∧nth nx a≤(nth l.apps a).wishes.length
  il:i≤l.apps.length
  cr:c = -1∨(0≤c∧c<i)
  cf:0≤c→c ∉ g
  un:∀a:Nat,i≤a→a<l.apps.length→(a:Int) ∉ g
  ex:∀a:Nat,a<i→(a:Int)≠c→(a:Int) ∉ g→∀s,s<l.stalls.length→canS l.stalls (nth l.apps a) s=true→(nth l.apps a).wishes.idxOf (s:Int)<(nth nx a).toNat
theorem RAsk.init (l:Lett):RAsk l (List.replicate l.stalls.length (-1)) (List.replicate l.apps.length 0) 0 (-1):=by
  have k:=asking0 l
  have hno:∀a:Nat,((a:Nat):Int) ∉ List.replicate l.stalls.length (-1:Int):=fun a hm=>by have:=List.eq_of_mem_replicate hm;omega
  have hp:nxF (List.replicate l.apps.length 0)=ptr (List.replicate l.stalls.length (-1)) (List.replicate l.apps.length 0):=by
    funext a;rw [ptr,if_neg (hno a)];rfl
  exact ⟨k.hl,k.nl,by rw [hp];exact k.da,k.hr,k.nr,Nat.zero_le _,.inl rfl,fun h=>by omega,fun a _ _=>hno a,fun a h=>by omega⟩
theorem RAsk.rest {l:Lett}{g nx:List Int}{i:Nat}{c:Int}(k:RAsk l g nx i c) (he:0≤c→(nth l.apps c.toNat).wishes.length≤(nth nx c.toNat).toNat):RAsk l g nx i (-1):=by
  refine ⟨k.hl,k.nl,k.da,k.hr,k.nr,k.il,.inl rfl,fun h=>by omega,k.un,fun a ha _ hm s hs hc=>?_⟩
  by_cases hac:(a:Int)=c
  · have:=he (by omega)
    rw [←hac,Int.toNat_natCast] at this
    have:=canS_lt hc
    omega
  · exact k.ex a ha hac hm s hs hc
theorem RAsk.next {l:Lett}{g nx:List Int}{i:Nat}(k:RAsk l g nx i (-1)) (hi:i<l.apps.length):RAsk l g nx (i+1) (i:Int):=by
  refine ⟨k.hl,k.nl,k.da,k.hr,k.nr,hi,.inr (by omega),fun _=>k.un i (Nat.le_refl _) hi,fun a ha hal=>k.un a (by omega) hal,fun a ha hne hm s hs hc=>k.ex a (by omega) (by omega) hm s hs hc⟩
theorem RAsk.free {l:Lett}{g nx:List Int}{i a:Nat}(k:RAsk l g nx i (a:Int)):a<l.apps.length∧a<nx.length∧(a:Int) ∉ g∧∀s,holdL g s≠some a:=by
  have h1:=k.cr
  have h2:=k.il
  have h3:=k.cf (by omega)
  have h4:=k.nl
  exact ⟨by omega,by omega,h3,fun s hs=>h3 (mem_holdL.2 ⟨s,hs⟩)⟩
theorem RAsk.pass {l : Lett} (hv : ValidL l) {g nx : List Int} {i a v s : Nat} (k : RAsk l g nx i (a : Int)) (hnv : nth nx a = (v : Int)) (hvl : v < (nth l.apps a).wishes.length) (hs : s < l.stalls.length) (hw : (nth l.apps a).wishes[v] = (s : Int))
    (hno:canS l.stalls (nth l.apps a) s=true→∃b,holdL g s=some b∧aheadB l s b a=true):RAsk l g (nx.set a ((v+1:Nat):Int)) i (a:Int):=by
  obtain ⟨h1,h2,h3,h4⟩:=k.free
  have hpa:nxF nx a=v:=by simp [nxF,hnv]
  have hnd:=(nth_app hv h1).nodup
  have hix:(nth l.apps a).wishes.idxOf (s:Int)=v:=by rw [←hw];exact idxOf_nodup hnd hvl
  refine ⟨k.hl,by simpa using k.nl, ?_,k.hr,fun b hb=>?_,k.il,k.cr,k.cf,k.un,fun b hb hne hm t ht hc=>?_⟩
  · rw [nxF_set h2]
    by_cases hc:canS l.stalls (nth l.apps a) s=true
    · obtain ⟨b,hb,hab⟩:=hno hc
      have hne:b≠a:=fun e=>h4 s (e▸hb)
      have:=k.da.refuse (mkt_ok hv) (a:=a) (b:=b) (s:=s) h1 hs h4 hc (by rw [hpa];exact hix) hb ⟨hne,hab⟩
      rwa [hpa] at this
    · refine k.da.raise h4 fun t ht hct hle=>?_
      rw [hpa] at hle
      have hct' : canS l.stalls (nth l.apps a) t=true:=hct
      have hlt:(nth l.apps a).wishes.idxOf (t:Int)<(nth l.apps a).wishes.length:=canS_lt hct'
      have hle' : v≤(nth l.apps a).wishes.idxOf (t:Int):=hle
      show v+1≤(nth l.apps a).wishes.idxOf (t:Int)
      rcases Nat.lt_or_ge v ((nth l.apps a).wishes.idxOf (t:Int)) with q | q
      · exact q
      · exfalso
        have e1:(nth l.apps a).wishes.idxOf (t:Int)=v:=by omega
        have e2:=List.getElem_idxOf hlt
        have e3:(t:Int)=s:=by rw [←e2,←hw];simp only [e1]
        have e4:t=s:=by omega
        subst e4;exact hc hct'
  · by_cases hba:b=a
    · subst hba;rw [nth_set_same h2];omega
    · rw [nth_set_other hba];exact k.nr b hb
  · have hba:b≠a:=fun e=>hne (by rw [e])
    rw [nth_set_other hba];exact k.ex b hb hne hm t ht hc
theorem RAsk.take {l:Lett}(hv:ValidL l){g nx:List Int}{i a v s:Nat}(k:RAsk l g nx i (a:Int)) (hnv:nth nx a=(v:Int)) (hvl:v<(nth l.apps a).wishes.length) (hs:s<l.stalls.length) (hw:(nth l.apps a).wishes[v]=(s:Int))
    (hc:canS l.stalls (nth l.apps a) s=true) (hg:¬0≤nth g s):RAsk l (g.set s (a:Int)) nx i (-1):=by
  obtain ⟨h1,h2,h3,h4⟩:=k.free
  have hsl:s<g.length:=by rw [k.hl];exact hs
  have hpa:nxF nx a=v:=by simp [nxF,hnv]
  have hix:(nth l.apps a).wishes.idxOf (s:Int)=v:=by rw [←hw];exact idxOf_nodup (nth_app hv h1).nodup hvl
  have hn:holdL g s=none:=holdL_none hsl (by rw [←nth_get hsl];exact hg)
  have hmem:∀b:Nat,(b:Int)∈g→(b:Int)∈g.set s (a:Int):=fun b hb=>by
    obtain ⟨t,ht⟩:=mem_holdL.1 hb
    have hts:t≠s:=fun e=>by subst e;rw [hn] at ht;cases ht
    exact mem_holdL.2 ⟨t,by rw [holdL_set hsl,put_other _ _ hts];exact ht⟩
  have hmem' : ∀b:Nat,(b:Int)∈g.set s (a:Int)→b=a∨(b:Int)∈g:=fun b hb=>by
    rcases List.mem_or_eq_of_mem_set hb with q | q
    · exact .inr q
    · exact .inl (by omega)
  refine ⟨by simpa using k.hl,k.nl, ?_,fun x hx=>?_,k.nr,k.il,.inl rfl,fun h=>by omega,fun b hb hbl hm=>?_,fun b hb hne hm t ht hct=>?_⟩
  · rw [holdL_set hsl]
    exact k.da.take h1 hs h4 hc (by rw [hpa];exact hix) hn
  · rcases List.mem_or_eq_of_mem_set hx with q | rfl
    · exact k.hr x q
    · exact .inr (by omega)
  · rcases hmem' b hm with q | q
    · have:=k.cr;omega
    · exact k.un b hb hbl q
  · have hba:b≠a:=fun e=>hm (by subst e;exact mem_holdL.2 ⟨s,by rw [holdL_set hsl,put_same]⟩)
    exact k.ex b hb (by omega) (fun q=>hm (hmem b q)) t ht hct
theorem RAsk.bump {l:Lett}(hv:ValidL l){g nx:List Int}{i a v s b u:Nat}(k:RAsk l g nx i (a:Int)) (hnv:nth nx a=(v:Int)) (hvl:v<(nth l.apps a).wishes.length) (hs:s<l.stalls.length) (hw:(nth l.apps a).wishes[v]=(s:Int))
    (hc:canS l.stalls (nth l.apps a) s=true) (hb:nth g s=(b:Int)) (hab:aheadB l s b a=false) (hu:nth nx b=(u:Int)):RAsk l (g.set s (a:Int)) (nx.set b ((u+1:Nat):Int)) i (b:Int)∧u<(nth l.apps b).wishes.length∧b<l.apps.length:=by
  obtain ⟨h1,h2,h3,h4⟩:=k.free
  have hsl:s<g.length:=by rw [k.hl];exact hs
  have hpa:nxF nx a=v:=by simp [nxF,hnv]
  have hix:(nth l.apps a).wishes.idxOf (s:Int)=v:=by rw [←hw];exact idxOf_nodup (nth_app hv h1).nodup hvl
  have hgs:g[s]=(b:Int):=by rw [←nth_get hsl];exact hb
  have hn:holdL g s=some b:=holdL_some.2 ⟨hsl,hgs⟩
  have hbg:(b:Int)∈g:=by rw [←hgs];exact List.getElem_mem hsl
  have hne:b≠a:=fun e=>h4 s (e▸hn)
  obtain ⟨_,hbl,hcb⟩:=k.da.valid.ok s b hn
  have hbl:b<l.apps.length:=hbl
  have hcb:canS l.stalls (nth l.apps b) s=true:=hcb
  have hbx:b<nx.length:=by rw [k.nl];exact hbl
  have hpb:nxF nx b=u:=by simp [nxF,hu]
  have hub:(nth l.apps b).wishes.idxOf (s:Int)=u:=by rw [←hpb];exact k.da.hold s b hn
  have hul:u<(nth l.apps b).wishes.length:=by rw [←hub];exact canS_lt hcb
  have hah:aheadB l s a b=true:=by
    rcases ahead_tot (s:=s) h1 hbl hne.symm with q | q
    · exact q
    · rw [hab] at q;cases q
  have hbi:b<i:=by
    rcases Nat.lt_or_ge b i with q | q
    · exact q
    · exact absurd hbg (k.un b q hbl)
  have hmem:∀c:Nat,c≠b→(c:Int)∈g→(c:Int)∈g.set s (a:Int):=fun c hcb hc=>by
    obtain ⟨t,ht⟩:=mem_holdL.1 hc
    have hts:t≠s:=fun e=>by subst e;rw [hn] at ht;cases ht;exact hcb rfl
    exact mem_holdL.2 ⟨t,by rw [holdL_set hsl,put_other _ _ hts];exact ht⟩
  refine ⟨⟨by simpa using k.hl,by simpa using k.nl, ?_,fun x hx=>?_,fun c hcl=>?_,k.il,.inr (by omega),fun _ hm=>?_,fun c hci hcl hm=>?_,fun c hci hcb hm t ht hct=>?_⟩,hul,hbl⟩
  · rw [holdL_set hsl,nxF_set hbx]
    have:=k.da.bump (mkt_ok hv) h1 hs h4 hc (by rw [hpa];exact hix) hn ⟨hne.symm,hah⟩
    rwa [hpb] at this
  · rcases List.mem_or_eq_of_mem_set hx with q | rfl
    · exact k.hr x q
    · exact .inr (by omega)
  · by_cases hcb' : c=b
    · subst hcb';rw [nth_set_same hbx];omega
    · rw [nth_set_other hcb'];exact k.nr c hcl
  · obtain ⟨t,ht⟩:=mem_holdL.1 hm
    rw [holdL_set hsl] at ht
    by_cases hts:t=s
    · subst hts;rw [put_same] at ht;cases ht;exact hne rfl
    · rw [put_other _ _ hts] at ht
      exact hts (k.da.valid.one t s b ht hn)
  · rcases List.mem_or_eq_of_mem_set hm with q | q
    · exact k.un c hci hcl q
    · have:=k.cr;omega
  · have hcb' : c≠b:=fun e=>hcb (by rw [e])
    have hca:c≠a:=fun e=>hm (by subst e;exact mem_holdL.2 ⟨s,by rw [holdL_set hsl,put_same]⟩)
    rw [nth_set_other hcb']
    exact k.ex c hci (by omega) (fun q=>hm (hmem c hcb' q)) t ht hct
theorem RAsk.best {l:Lett}(hv:ValidL l){g nx:List Int}(k:RAsk l g nx l.apps.length (-1)):BestL l g:=by
  refine ⟨k.hl,k.hr,k.da.final (mkt_ok hv) fun a ha=>?_⟩
  by_cases hm:(a:Int)∈g
  · exact .inl (mem_holdL.1 hm)
  · right
    intro s hs hc
    exact k.ex a ha (by omega) hm s hs hc
#print axioms RAsk.best
end Go.Sim
