/- Seals: no plan with fewer tests than the program's keeps all sealed, nor a later one. -/
import Derived.Test.YtojjfnhjmfokhaaQm
set_option linter.all false
set_option linter.unusedVariables false
set_option linter.unusedSimpArgs false
set_option linter.unusedSectionVars false
namespace Go.Sim
open Go.Proofs
def tstOn (s:Sls) (d:Int) (k:Nat) (t:Tst):Bool:=t.sc==(k:Int)&&decide (t.day≤d)&&decide (d-t.day≤nth s.eve k)
def shutOn (s:Sls) (l:List Tst) (d:Int) (k:Nat):Bool:=decide (d≤nth s.lef k)||l.any (tstOn s d k)
def manyOn (l:List Tst) (d:Int):Nat:=l.countP fun t=>t.day==d
def keptOn (s:Sls) (l:List Tst) (d:Int):Bool:=decide ((manyOn l d:Int)≤s.most)&&(List.range s.lef.length).all (shutOn s l d)
def keptB (s:Sls) (l:List Tst):Bool:=(List.range (s.days+1).toNat).all fun d=>keptOn s l d
def tLt (a b:Tst):Prop:=a.day<b.day∨(a.day=b.day∧a.sc<b.sc)
theorem tLt_irr {a:Tst}(h:tLt a a):False:=by unfold tLt at h;omega
theorem tLt_asy {a b:Tst}(h:tLt a b) (g:tLt b a):False:=by unfold tLt at h g;omega
structure AscT (s:Sls) (lo:Int) (l:List Tst):Prop where
  srt:l.Pairwise tLt
  dom:∀t∈l,(lo≤t.day∧t.day≤s.days)∧0≤t.sc∧t.sc<s.lef.length
theorem asc_ext : ∀ {a b : List Tst}, a.Pairwise tLt → b.Pairwise tLt → (∀ t, t ∈ a ↔ t ∈ b) → a = b
  | [],[],_,_,_=>rfl
  | [],y :: b,_,_,h=>absurd ((h y).2 (List.mem_cons_self ..)) (by simp)
  | x :: a,[],_,_,h=>absurd ((h x).1 (List.mem_cons_self ..)) (by simp)
  | x :: a, y :: b, ha, hb, h => by
    rw [List.pairwise_cons] at ha hb
    have e:x=y:=by
      rcases List.mem_cons.1 ((h x).1 (List.mem_cons_self ..)) with k | k
      · exact k
      · rcases List.mem_cons.1 ((h y).2 (List.mem_cons_self ..)) with g | g
        · exact g.symm
        · exact (tLt_asy (ha.1 _ g) (hb.1 _ k)).elim
    subst e
    congr 1
    refine asc_ext ha.2 hb.2 fun t=>⟨fun m=>?_,fun m=>?_⟩
    · rcases List.mem_cons.1 ((h t).1 (List.mem_cons_of_mem _ m)) with k | k
      · subst k;exact (tLt_irr (ha.1 _ m)).elim
      · exact k
    · rcases List.mem_cons.1 ((h t).2 (List.mem_cons_of_mem _ m)) with k | k
      · subst k;exact (tLt_irr (hb.1 _ m)).elim
      · exact k
/-! the order of plans -/
def betR (a b:List Tst):Prop:=a.length<b.length∨(a.length=b.length∧(a=b∨laterB a b=true))
theorem laterB_cons {x y:Tst}{a b:List Tst}:laterB (x :: a) (y :: b)=true↔(x=y∧laterB a b=true)∨tLt y x:=by
  rw [laterB]
  by_cases e:x=y
  · rw [if_pos e]
    subst e
    exact ⟨fun h=>.inl ⟨rfl,h⟩,fun h=>h.elim (·.2) fun k=>(tLt_irr k).elim⟩
  · rw [if_neg e]
    simp only [Bool.or_eq_true,Bool.and_eq_true,decide_eq_true_eq]
    unfold tLt
    constructor
    · rintro (h | h)
      · exact .inr (.inl h)
      · exact .inr (.inr ⟨h.1.symm,h.2⟩)
    · rintro (h | h | h)
      · exact absurd h.1 e
      · exact .inl h
      · exact .inr ⟨h.1.symm,h.2⟩
theorem tLt_trans {a b c:Tst}(h:tLt a b) (g:tLt b c):tLt a c:=by unfold tLt at *;omega
theorem tLt_tot {a b:Tst}(h:a≠b):tLt a b∨tLt b a:=by
  unfold tLt
  obtain ⟨a1,a2⟩:=a
  obtain ⟨b1,b2⟩:=b
  have:¬(a1=b1∧a2=b2):=fun k=>h (by rw [k.1,k.2])
  simp only
  omega
theorem laterB_trans:∀ {a b c:List Tst},laterB a b=true→laterB b c=true→laterB a c=true
  | [],_,_,h,_=>by simp [laterB] at h
  | _ :: _,[],_,h,_=>by simp [laterB] at h
  | _ :: _,_ :: _,[],_,h=>by simp [laterB] at h
  | x :: a, y :: b, z :: c, h, g => by
    rw [laterB_cons] at *
    rcases h with ⟨rfl,h⟩ | h
    · rcases g with ⟨rfl,g⟩ | g
      · exact .inl ⟨rfl,laterB_trans h g⟩
      · exact .inr g
    · rcases g with ⟨rfl,g⟩ | g
      · exact .inr h
      · exact .inr (tLt_trans g h)
theorem laterB_tot:∀ {a b:List Tst},a.length=b.length→a=b∨laterB a b=true∨laterB b a=true
  | [],[],_=>.inl rfl
  | [],_ :: _,h=>by simp at h
  | _ :: _,[],h=>by simp at h
  | x :: a, y :: b, h => by
    rw [laterB_cons,laterB_cons]
    by_cases e:x=y
    · subst e
      rcases laterB_tot (a:=a) (b:=b) (by simpa using h) with k | k | k
      · exact .inl (by rw [k])
      · exact .inr (.inl (.inl ⟨rfl,k⟩))
      · exact .inr (.inr (.inl ⟨rfl,k⟩))
    · rcases tLt_tot e with k | k
      · exact .inr (.inr (.inr k))
      · exact .inr (.inl (.inr k))
theorem laterB_irr:∀ {a:List Tst},laterB a a=true→False
  | [],h=>by simp [laterB] at h
  | x :: a,h=>by
    rw [laterB_cons] at h
    rcases h with h | h
    · exact laterB_irr h.2
    · exact tLt_irr h
theorem betR_refl (a:List Tst):betR a a:=.inr ⟨rfl,.inl rfl⟩
theorem betR_trans {a b c : List Tst} (h : betR a b) (g : betR b c) : betR a c := by
  rcases h with h | ⟨h,h2⟩
  · rcases g with g | ⟨g,g2⟩
    · exact .inl (by omega)
    · exact .inl (by omega)
  · rcases g with g | ⟨g,g2⟩
    · exact .inl (by omega)
    · refine .inr ⟨by omega, ?_⟩
      rcases h2 with rfl | h2
      · exact g2
      · rcases g2 with rfl | g2
        · exact .inr h2
        · exact .inr (laterB_trans h2 g2)
theorem betR_pre {a b:List Tst}(d:List Tst) (h:betR a b):betR (d++a) (d++b):=by
  rcases h with h | ⟨h,h2⟩
  · exact .inl (by rw [List.length_append,List.length_append];omega)
  · refine .inr ⟨by rw [List.length_append,List.length_append];omega, ?_⟩
    rcases h2 with rfl | h2
    · exact .inl rfl
    · exact .inr (by rw [laterB_pre];exact h2)
theorem better_iff {p o:Pln}(hp:p.2=true) (ho:o.2=true):betterP p o=true↔p.1.length<o.1.length∨(p.1.length=o.1.length∧laterB p.1 o.1=true):=by
  unfold betterP
  rw [if_neg (by simp [hp,ho])]
  by_cases e:p.1.length=o.1.length
  · rw [if_neg (Classical.not_not.2 e),cmpT_later e]
    exact ⟨fun h=>.inr ⟨e,h⟩,fun h=>h.elim (fun k=>absurd k (by omega)) (·.2)⟩
  · rw [if_pos e,decide_eq_true_eq]
    exact ⟨.inl,fun h=>h.elim id fun k=>absurd k.1 e⟩
structure BestOf (L:List Pln) (p:Pln):Prop where
  yes:p.2=true→p∈L∧∀q∈L,q.2=true→betR p.1 q.1
  no:p.2=false→∀q∈L,q.2=false
theorem bestP_rec : ∀ (n : Nat) (L : List Pln), L.length = n → BestOf L (bestP L)
  | 0,L,h=>by
    have e:=List.length_eq_zero_iff.1 h
    subst e
    exact ⟨fun k=>(by cases k),fun _ q hq=>(by cases hq)⟩
  | n + 1, L, h => by
    obtain ⟨l,p,e⟩:∃l p,L=l++[p]:=⟨L.dropLast,L.getLast (fun k=>by rw [k] at h;cases h),(List.dropLast_concat_getLast _).symm⟩
    subst e
    have ih:=bestP_rec n l (by simpa using h)
    rw [bestP_snoc]
    by_cases hl:l=[]
    · rw [if_pos hl,hl]
      refine ⟨fun k=>⟨by simp,fun q hq _=>?_⟩,fun k q hq=>?_⟩
      · have:q=p:=by simpa using hq
        rw [this];exact betR_refl _
      · have:q=p:=by simpa using hq
        rw [this];exact k
    · rw [if_neg hl]
      by_cases hb:betterP p (bestP l)=true
      · rw [if_pos hb]
        have hp:p.2=true:=by
          unfold betterP at hb
          by_cases c:p.2=false∨(bestP l).2=false
          · rw [if_pos c] at hb;exact hb
          · simp only [not_or] at c;simpa using c.1
        refine ⟨fun _=>⟨by simp,fun q hq h2=>?_⟩,fun k=>by rw [k] at hp;cases hp⟩
        rcases List.mem_append.1 hq with m | m
        · by_cases ho:(bestP l).2=true
          · have k:=(better_iff hp ho).1 hb
            have:betR p.1 (bestP l).1:=k.elim .inl fun z=>.inr ⟨z.1,.inr z.2⟩
            exact betR_trans this ((ih.yes ho).2 q m h2)
          · have:=ih.no (by simpa using ho) q m
            rw [this] at h2;cases h2
        · have:q=p:=by simpa using m
          rw [this];exact betR_refl _
      · rw [if_neg hb]
        refine ⟨fun ho=>⟨List.mem_append_left _ (ih.yes ho).1,fun q hq h2=>?_⟩,fun ho q hq=>?_⟩
        · rcases List.mem_append.1 hq with m | m
          · exact (ih.yes ho).2 q m h2
          · have e:q=p:=by simpa using m
            rw [e] at h2 ⊢
            have k:=not_or.1 (fun z=>hb ((better_iff h2 ho).2 z))
            by_cases e2:(bestP l).1.length<p.1.length
            · exact .inl e2
            · refine .inr ⟨by omega, ?_⟩
              rcases laterB_tot (a:=(bestP l).1) (b:=p.1) (by omega) with c | c | c
              · exact .inl c
              · exact .inr c
              · exact absurd ⟨by omega,c⟩ k.2
        · rcases List.mem_append.1 hq with m | m
          · exact ih.no ho q m
          · have e:q=p:=by simpa using m
            rw [e]
            unfold betterP at hb
            rw [if_pos (.inr ho)] at hb
            simpa using hb
theorem allK_iff {s : Sls} {next : List Int → Pln} {day : Int} {u : List Int} {p : Pln} : ∀ {j : Nat}, p ∈ allK s next day u j ↔ ∃ k, k < j ∧ (setS s day u k s.eve.length).2.2 = true ∧ ((setS s day u k s.eve.length).1.length : Int) ≤ s.most ∧ p = ((setS s day u k s.eve.length).1 ++ (next (setS s day u k s.eve.length).2.1).1, (next (setS s day u k s.eve.length).2.1).2)
  | 0=>⟨fun h=>(by cases h),fun ⟨k,h,_⟩=>(by omega)⟩
  | j + 1 => by
    have ih:=allK_iff (s:=s) (next:=next) (day:=day) (u:=u) (p:=p) (j:=j)
    have e:allK s next day u (j+1)=if (setS s day u j s.eve.length).2.2=false∨s.most<((setS s day u j s.eve.length).1.length:Int) then allK s next day u j else allK s next day u j++[((setS s day u j s.eve.length).1++(next (setS s day u j s.eve.length).2.1).1,(next (setS s day u j s.eve.length).2.1).2)]:=rfl
    rw [e]
    by_cases hc:(setS s day u j s.eve.length).2.2=false∨s.most<((setS s day u j s.eve.length).1.length:Int)
    · rw [if_pos hc,ih]
      constructor
      · rintro ⟨k,h1,h2⟩;exact ⟨k,by omega,h2⟩
      · rintro ⟨k,h1,h2,h3,h4⟩
        by_cases ek:k=j
        · subst ek
          rcases hc with hc | hc
          · rw [hc] at h2;cases h2
          · omega
        · exact ⟨k,by omega,h2,h3,h4⟩
    · rw [if_neg hc,List.mem_append,ih,List.mem_singleton]
      simp only [not_or] at hc
      constructor
      · rintro (⟨k,h1,h2⟩ | h)
        · exact ⟨k,by omega,h2⟩
        · exact ⟨j,by omega,by simpa using hc.1,by omega,h⟩
      · rintro ⟨k,h1,h2,h3,h4⟩
        by_cases ek:k=j
        · subst ek;exact .inr h4
        · exact .inl ⟨k,by omega,h2,h3,h4⟩
def Pl (s:Sls):Nat→Int→List Int→List Tst→Prop
  | 0,_,_,l=>l=[]
  | k+1,day,u,l=>∃set,set<2 ^ s.lef.length∧(setS s day u set s.eve.length).2.2=true∧((setS s day u set s.eve.length).1.length:Int)≤s.most∧∃r,l=(setS s day u set s.eve.length).1++r∧Pl s k (day+1) (setS s day u set s.eve.length).2.1 r
structure BestPl (P:List Tst→Prop) (p:Pln):Prop where
  yes:p.2=true→P p.1∧∀q,P q→betR p.1 q
  no:p.2=false→∀q,¬P q
theorem planF_best (s : Sls) : ∀ (k : Nat) (day : Int) (u : List Int), BestPl (Pl s k day u) (planF s k day u)
  | 0,day,u=>⟨fun _=>⟨rfl,fun q h=>by rw [show q=[] from h];exact betR_refl _⟩,fun h=>by cases h⟩
  | k + 1, day, u => by
    have b:=bestP_rec _ (allK s (planF s k (day+1)) day u (2 ^ s.lef.length)) rfl
    have e:planF s (k+1) day u=bestP (allK s (planF s k (day+1)) day u (2 ^ s.lef.length)):=rfl
    have ih:=planF_best s k (day+1)
    rw [e]
    refine ⟨fun h=>?_,fun h q ⟨set,h1,h2,h3,r,h4,h5⟩=>?_⟩
    · obtain ⟨g1,g2⟩:=b.yes h
      refine ⟨?_,fun q ⟨set,h1,h2,h3,r,h4,h5⟩=>?_⟩
      · obtain ⟨set,h1,h2,h3,h4⟩:=allK_iff.1 g1
        have h6:(planF s k (day+1) (setS s day u set s.eve.length).2.1).2=true:=by rw [h4] at h;exact h
        rw [h4]
        exact ⟨set,h1,h2,h3,_,rfl,((ih _).yes h6).1⟩
      · have ht:(planF s k (day+1) (setS s day u set s.eve.length).2.1).2=true:=by
          cases hz:(planF s k (day+1) (setS s day u set s.eve.length).2.1).2
          · exact absurd h5 ((ih _).no hz r)
          · rfl
        have m:=g2 _ (allK_iff.2 ⟨set,h1,h2,h3,rfl⟩) ht
        rw [h4]
        exact betR_trans m (betR_pre _ (((ih _).yes ht).2 r h5))
    · have ht:(planF s k (day+1) (setS s day u set s.eve.length).2.1).2=true:=by
        cases hz:(planF s k (day+1) (setS s day u set s.eve.length).2.1).2
        · exact absurd h5 ((ih _).no hz r)
        · rfl
      have m:=b.no h _ (allK_iff.2 ⟨set,h1,h2,h3,rfl⟩)
      simp only at m
      rw [m] at ht;cases ht
/-! what a choice of scales does -/
theorem setS_fst (s:Sls) (day:Int) (u:List Int) (set:Nat):∀i,(setS s day u set i).1=((List.range i).filter fun k=>set.testBit k).map fun k:Nat=>(⟨day,(k:Int)⟩:Tst)
  | 0=>rfl
  | i+1=>by
    have ih:=setS_fst s day u set i
    rw [List.range_succ,List.filter_append,List.map_append,←ih]
    rw [setS_succ]
    cases h:set.testBit i<;>simp [h]
theorem setS_vl (s:Sls) (day:Int) (u:List Int) (set:Nat):∀i,(setS s day u set i).2.1.length=u.length
  | 0=>rfl
  | i+1=>by
    have ih:=setS_vl s day u set i
    rw [setS_succ]
    simp only
    split
    · rw [List.length_set];exact ih
    · exact ih
theorem setS_v (s : Sls) (day : Int) (u : List Int) (set : Nat) : ∀ i, i ≤ u.length → ∀ k, nth (setS s day u set i).2.1 k = if k < i ∧ set.testBit k = true then min s.days (max (nth u k) (day + nth s.eve k)) else nth u k
  | 0,_,k=>by rw [if_neg (by omega)];rfl
  | i + 1, hi, k => by
    have ih:=setS_v s day u set i (by omega)
    have hl:=setS_vl s day u set i
    rw [setS_succ]
    simp only
    by_cases hb:set.testBit i=true
    · rw [if_pos hb,nth_set' (by omega)]
      by_cases hk:k=i
      · subst hk
        rw [if_pos rfl,if_pos ⟨by omega,hb⟩,ih k,if_neg (by omega)]
      · rw [if_neg hk,ih k]
        by_cases hc:k<i∧set.testBit k=true
        · rw [if_pos hc,if_pos ⟨by omega,hc.2⟩]
        · rw [if_neg hc,if_neg (fun z=>hc ⟨by omega,z.2⟩)]
    · rw [if_neg hb,ih k]
      by_cases hc:k<i∧set.testBit k=true
      · rw [if_pos hc,if_pos ⟨by omega,hc.2⟩]
      · rw [if_neg hc,if_neg]
        rintro ⟨z1,z2⟩
        by_cases hk:k=i
        · subst hk;exact hb z2
        · exact hc ⟨by omega,z2⟩
theorem setS_b (s:Sls) (day:Int) (u:List Int) (set:Nat):∀i,i≤u.length→((setS s day u set i).2.2=true↔∀k,k<i→day≤nth (setS s day u set i).2.1 k)
  | 0,_=>⟨fun _ k h=>(by omega),fun _=>rfl⟩
  | i + 1, hi => by
    have ih:=setS_b s day u set i (by omega)
    have v1:=setS_v s day u set (i+1) hi
    have v0:=setS_v s day u set i (by omega)
    have e:(setS s day u set (i+1)).2.2=((setS s day u set i).2.2&&decide (day≤nth (setS s day u set (i+1)).2.1 i)):=rfl
    have same:∀k,k<i→nth (setS s day u set (i+1)).2.1 k=nth (setS s day u set i).2.1 k:=fun k hk=>by
      rw [v1,v0]
      by_cases hc:set.testBit k=true
      · rw [if_pos ⟨by omega,hc⟩,if_pos ⟨hk,hc⟩]
      · rw [if_neg (fun z=>hc z.2),if_neg (fun z=>hc z.2)]
    rw [e,Bool.and_eq_true,ih,decide_eq_true_eq]
    constructor
    · rintro ⟨h1,h2⟩ k hk
      by_cases hki:k=i
      · subst hki;exact h2
      · rw [same k (by omega)];exact h1 k (by omega)
    · intro h
      exact ⟨fun k hk=>by rw [←same k hk];exact h k (by omega),h i (by omega)⟩
theorem set_of (P:Nat→Bool):∀n,∃set,set<2 ^ n∧∀k,k<n→set.testBit k=P k
  | 0=>⟨0,by decide,fun k h=>(by omega)⟩
  | n + 1 => by
    obtain ⟨z,h1,h2⟩:=set_of P n
    have h0:z.testBit n=false:=Nat.testBit_lt_two_pow h1
    cases hp:P n
    · refine ⟨z,by rw [Nat.pow_succ];omega,fun k hk=>?_⟩
      by_cases e:k=n
      · subst e;rw [h0,hp]
      · exact h2 k (by omega)
    · refine ⟨2 ^ n+z,by rw [Nat.pow_succ];omega,fun k hk=>?_⟩
      by_cases e:k=n
      · subst e;rw [Nat.testBit_two_pow_add_eq,h0,hp];rfl
      · rw [Nat.testBit_two_pow_add_gt (by omega)];exact h2 k (by omega)
def Inv (s:Sls) (u:List Int) (p:List Tst):Prop:=∀k,k<s.lef.length→∀d,d≤s.days→(d≤nth u k↔d≤nth s.lef k∨∃t∈p,t.sc=(k:Int)∧d≤t.day+nth s.eve k)
theorem mem_fst {s:Sls}{day:Int}{u:List Int}{set i:Nat}{t:Tst}:t∈(setS s day u set i).1↔t.day=day∧∃k,k<i∧set.testBit k=true∧t.sc=(k:Int):=by
  rw [setS_fst,List.mem_map]
  constructor
  · rintro ⟨k,h,rfl⟩
    rw [List.mem_filter,List.mem_range] at h
    exact ⟨rfl,k,h.1,h.2,rfl⟩
  · rintro ⟨h,k,h1,h2,h3⟩
    refine ⟨k,List.mem_filter.2 ⟨List.mem_range.2 h1,h2⟩, ?_⟩
    obtain ⟨a,b⟩:=t
    simp only at h h3
    rw [h,h3]
theorem inv_step {s : Sls} (he : s.eve.length = s.lef.length) {day : Int} {u : List Int} (hu : s.lef.length ≤ u.length) {p : List Tst} (hi : Inv s u p) (set : Nat) : Inv s (setS s day u set s.eve.length).2.1 (p ++ (setS s day u set s.eve.length).1) := by
  intro k hk d hd
  rw [setS_v s day u set _ (by omega) k]
  have h:=hi k hk d hd
  have hm:(∃t∈p++(setS s day u set s.eve.length).1,t.sc=(k:Int)∧d≤t.day+nth s.eve k)↔(∃t∈p,t.sc=(k:Int)∧d≤t.day+nth s.eve k)∨(set.testBit k=true∧d≤day+nth s.eve k):=by
    constructor
    · rintro ⟨t,m,h1,h2⟩
      rcases List.mem_append.1 m with m | m
      · exact .inl ⟨t,m,h1,h2⟩
      · obtain ⟨e1,k',e2,e3,e4⟩:=mem_fst.1 m
        have:k'=k:=by omega
        subst this
        exact .inr ⟨e3,by rw [e1] at h2;exact h2⟩
    · rintro (⟨t,m,h1,h2⟩ | ⟨h1,h2⟩)
      · exact ⟨t,List.mem_append_left _ m,h1,h2⟩
      · exact ⟨⟨day,k⟩,List.mem_append_right _ (mem_fst.2 ⟨rfl,k,by omega,h1,rfl⟩),rfl,h2⟩
  rw [hm]
  by_cases hb:set.testBit k=true
  · rw [if_pos ⟨by omega,hb⟩]
    have e:d≤min s.days (max (nth u k) (day+nth s.eve k))↔d≤nth u k∨d≤day+nth s.eve k:=by omega
    rw [e,h]
    constructor
    · rintro ((a | a) | a)
      · exact .inl a
      · exact .inr (.inl a)
      · exact .inr (.inr ⟨hb,a⟩)
    · rintro (a | a | a)
      · exact .inl (.inl a)
      · exact .inl (.inr a)
      · exact .inr a.2
  · rw [if_neg (fun z=>hb z.2),h]
    constructor
    · rintro (a | a)
      · exact .inl a
      · exact .inr (.inl a)
    · rintro (a | a | a)
      · exact .inl a
      · exact .inr a
      · exact absurd a.1 hb
theorem fst_srt (s:Sls) (day:Int) (u:List Int) (set i:Nat):(setS s day u set i).1.Pairwise tLt:=by
  rw [setS_fst,List.pairwise_map]
  refine List.Pairwise.filter _ ?_
  refine List.Pairwise.imp ?_ (List.pairwise_lt_range (n:=i))
  intro a b h
  exact .inr ⟨rfl,by show (a:Int)<b;omega⟩
theorem asc_app {s:Sls}{day:Int}{t r:List Tst}(hd:day≤s.days) (h1:t.Pairwise tLt) (h2:∀x∈t,x.day=day∧0≤x.sc∧x.sc<s.lef.length) (h3:AscT s (day+1) r):AscT s day (t++r):=by
  refine ⟨List.pairwise_append.2 ⟨h1,h3.srt,fun a ha b hb=>.inl ?_⟩,fun x hx=>?_⟩
  · have:=(h2 a ha).1;have:=(h3.dom b hb).1.1;omega
  · rcases List.mem_append.1 hx with m | m
    · have:=h2 x m;omega
    · have:=h3.dom x m;omega
theorem pl_asc {s:Sls}(he:s.eve.length=s.lef.length):∀(k:Nat) (day:Int) (u l:List _),day+(k:Int)=s.days+1→Pl s k day u l→AscT s day l
  | 0,day,u,l,hk,h=>by rw [show l=[] from h];exact ⟨List.Pairwise.nil,fun t m=>by cases m⟩
  | k+1,day,u,l,hk,⟨set,h1,h2,h3,r,h4,h5⟩=>by
    rw [h4]
    refine asc_app (by omega) (fst_srt ..) (fun x hx=>?_) (pl_asc he k (day+1) _ r (by omega) h5)
    obtain ⟨e1,k',e2,e3,e4⟩:=mem_fst.1 hx
    omega
theorem asc_split {s : Sls} {day : Int} : ∀ {l : List Tst}, AscT s day l → ∃ t r, l = t ++ r ∧ (∀ x ∈ t, x.day = day ∧ 0 ≤ x.sc ∧ x.sc < s.lef.length) ∧ t.Pairwise tLt ∧ AscT s (day + 1) r
  | [],h=>⟨[],[],rfl,fun x m=>(by cases m),List.Pairwise.nil,⟨List.Pairwise.nil,fun t m=>(by cases m)⟩⟩
  | x :: l, h => by
    obtain ⟨h1,h2⟩:=h
    rw [List.pairwise_cons] at h1
    have hx:=h2 x (List.mem_cons_self ..)
    by_cases e:x.day=day
    · obtain ⟨t,r,g1,g2,g3,g4⟩:=asc_split (s:=s) (day:=day) (l:=l) ⟨h1.2,fun t m=>h2 t (List.mem_cons_of_mem _ m)⟩
      refine ⟨x :: t,r,by rw [g1];rfl,fun y m=>?_,List.pairwise_cons.2 ⟨fun y m=>h1.1 y (by rw [g1];exact List.mem_append_left _ m),g3⟩,g4⟩
      rcases List.mem_cons.1 m with m | m
      · rw [m];exact ⟨e,hx.2⟩
      · exact g2 y m
    · refine ⟨[],x :: l,rfl,fun x m=>(by cases m),List.Pairwise.nil,⟨List.pairwise_cons.2 h1,fun t m=>?_⟩⟩
      rcases List.mem_cons.1 m with m | m
      · rw [m];omega
      · have a:=h1.1 t m
        have b:=h2 t (List.mem_cons_of_mem _ m)
        unfold tLt at a
        omega
theorem many_app {p t r:List Tst}{d:Int}(h1:∀x∈p,x.day<d) (h2:∀x∈t,x.day=d) (h3:∀x∈r,d<x.day):manyOn (p++(t++r)) d=t.length:=by
  unfold manyOn
  rw [List.countP_append,List.countP_append]
  have e1:p.countP (fun t=>t.day==d)=0:=List.countP_eq_zero.2 fun x m=>by have:=h1 x m;simp;omega
  have e2:t.countP (fun t=>t.day==d)=t.length:=List.countP_eq_length.2 fun x m=>by simp [h2 x m]
  have e3:r.countP (fun t=>t.day==d)=0:=List.countP_eq_zero.2 fun x m=>by have:=h3 x m;simp;omega
  omega
theorem shut_iff {s:Sls}{l:List Tst}{d:Int}{k:Nat}:shutOn s l d k=true↔d≤nth s.lef k∨∃t∈l,t.sc=(k:Int)∧t.day≤d∧d≤t.day+nth s.eve k:=by
  unfold shutOn
  rw [Bool.or_eq_true,decide_eq_true_eq,List.any_eq_true]
  refine or_congr Iff.rfl (exists_congr fun t=>and_congr Iff.rfl ?_)
  unfold tstOn
  simp only [Bool.and_eq_true,beq_iff_eq,decide_eq_true_eq]
  omega
theorem kept_iff {s:Sls}{l:List Tst}{d:Int}:keptOn s l d=true↔(manyOn l d:Int)≤s.most∧∀k,k<s.lef.length→shutOn s l d k=true:=by
  unfold keptOn
  rw [Bool.and_eq_true,decide_eq_true_eq,List.all_eq_true]
  exact and_congr Iff.rfl ⟨fun h k hk=>h k (List.mem_range.2 hk),fun h k hk=>h k (List.mem_range.1 hk)⟩
theorem shut_day {s:Sls}{v:List Int}{p t r:List Tst}{day:Int}(hd:day≤s.days) (h1:∀x∈p,x.day<day) (h2:∀x∈t,x.day=day) (h3:∀x∈r,day<x.day) (hi:Inv s v (p++t)){k:Nat}(hk:k<s.lef.length):shutOn s (p++(t++r)) day k=true↔day≤nth v k:=by
  rw [shut_iff,hi k hk day hd]
  refine or_congr Iff.rfl ⟨?_, ?_⟩
  · rintro ⟨x,m,a,b,c⟩
    refine ⟨x, ?_,a,c⟩
    rcases List.mem_append.1 m with m | m
    · exact List.mem_append_left _ m
    · rcases List.mem_append.1 m with m | m
      · exact List.mem_append_right _ m
      · have:=h3 x m;omega
  · rintro ⟨x,m,a,c⟩
    rcases List.mem_append.1 m with m | m
    · exact ⟨x,List.mem_append_left _ m,a,by have:=h1 x m;omega,c⟩
    · exact ⟨x,List.mem_append_right _ (List.mem_append_left _ m),a,by have:=h2 x m;omega,c⟩
theorem pl_iff {s : Sls} (he : s.eve.length = s.lef.length) : ∀ (k : Nat) (day : Int) (u : List Int) (p l : List Tst), day + (k : Int) = s.days + 1 → s.lef.length ≤ u.length → (∀ t ∈ p, t.day < day) → Inv s u p → AscT s day l →
    (Pl s k day u l↔∀d,day≤d→d≤s.days→keptOn s (p++l) d=true)
  | 0,day,u,p,l,hk,hu,hp,hi,hl=>by
    refine ⟨fun _ d h1 h2=>by omega,fun _=>?_⟩
    show l=[]
    cases l with
    | nil=>rfl
    | cons x l=>have:=hl.dom x (List.mem_cons_self ..);omega
  | k + 1, day, u, p, l, hk, hu, hp, hi, hl => by
    constructor
    · rintro ⟨set,h1,h2,h3,r,h4,h5⟩ d hd1 hd2
      have hr:=pl_asc he k (day+1) _ r (by omega) h5
      have hi2:=inv_step he hu hi (day:=day) set
      have ht:∀x∈(setS s day u set s.eve.length).1,x.day=day:=fun x m=>(mem_fst.1 m).1
      have hr2:∀x∈r,day<x.day:=fun x m=>by have:=(hr.dom x m).1.1;omega
      by_cases e:d=day
      · subst e
        rw [h4,kept_iff,many_app hp ht hr2]
        exact ⟨h3,fun k hk=>(shut_day hd2 hp ht hr2 hi2 hk).2 ((setS_b s d u set _ (by omega)).1 h2 k (by omega))⟩
      · have:=(pl_iff he k (day+1) _ (p++(setS s day u set s.eve.length).1) r (by omega) (by rw [setS_vl];exact hu) (fun t m=>?_) hi2 hr).1 h5 d (by omega) hd2
        · rw [h4,←List.append_assoc];exact this
        · rcases List.mem_append.1 m with m | m
          · have:=hp t m;omega
          · have:=ht t m;omega
    · intro h
      obtain ⟨t,r,e,h2,h3,h4⟩:=asc_split hl
      obtain ⟨set,hs1,hs2⟩:=set_of (fun k=>t.any fun x=>x.sc == (k:Int)) s.lef.length
      have et:t=(setS s day u set s.eve.length).1:=by
        refine asc_ext h3 (fst_srt ..) fun x=>?_
        rw [mem_fst]
        constructor
        · intro m
          obtain ⟨a,b,c⟩:=h2 x m
          refine ⟨a,x.sc.toNat,by omega, ?_,by omega⟩
          rw [hs2 _ (by omega),List.any_eq_true]
          exact ⟨x,m,by simp;omega⟩
        · rintro ⟨a,k',b,c,d⟩
          rw [hs2 _ (by omega),List.any_eq_true] at c
          obtain ⟨y,m,z⟩:=c
          have z2:y.sc=(k' : Int):=by simpa using z
          have y1:=(h2 y m).1
          have:x=y:=by
            obtain ⟨x1,x2⟩:=x
            obtain ⟨y1,y2⟩:=y
            simp_all
          rw [this];exact m
      have hi2:=inv_step he hu hi (day:=day) set
      have hdd:day≤s.days:=by omega
      have ht:∀x∈t,x.day=day:=fun x m=>(h2 x m).1
      have hr2:∀x∈r,day<x.day:=fun x m=>by have:=(h4.dom x m).1.1;omega
      have g:=kept_iff.1 (h day (by omega) hdd)
      rw [e,many_app hp ht hr2] at g
      refine ⟨set,hs1, ?_, ?_,r, ?_, ?_⟩
      · rw [setS_b s day u set _ (by omega)]
        intro k hk
        rw [←et] at hi2
        exact (shut_day hdd hp ht hr2 hi2 (by omega)).1 (g.2 k (by omega))
      · rw [←et];exact g.1
      · rw [←et];exact e
      · refine (pl_iff he k (day+1) _ (p++(setS s day u set s.eve.length).1) r (by omega) (by rw [setS_vl];exact hu) (fun t' m=>?_) hi2 h4).2 fun d hd1 hd2=>?_
        · rcases List.mem_append.1 m with m | m
          · have:=hp t' m;omega
          · rw [←et] at m;have:=ht t' m;omega
        · have:=h d (by omega) hd2
          rw [e,et,←List.append_assoc] at this
          exact this
theorem keptB_iff {s:Sls}(hd:0≤s.days){l:List Tst}:keptB s l=true↔∀d,0≤d→d≤s.days→keptOn s l d=true:=by
  unfold keptB
  rw [List.all_eq_true]
  constructor
  · intro h d h1 h2
    have:=h d.toNat (List.mem_range.2 (by omega))
    rwa [show ((d.toNat:Nat):Int)=d by omega] at this
  · intro h d m
    rw [List.mem_range] at m
    exact h d (by omega) (by omega)
theorem inv0 {s:Sls}(hv:ValidS s):Inv s (left0 s) []:=by
  intro k hk d hd
  have:nth (left0 s) k=min (nth s.lef k) s.days:=by
    unfold left0
    rw [nth_get (by simp;have:=hv.l4;omega)]
    simp [hk]
  rw [this]
  constructor
  · intro h;exact .inl (by omega)
  · rintro (h | ⟨t,m,_⟩)
    · omega
    · cases m
theorem plP_iff {s:Sls}(hv:ValidS s){l:List Tst}(hl:AscT s 0 l):Pl s (s.days+1).toNat 0 (left0 s) l↔keptB s l=true:=by
  rw [keptB_iff hv.days.1]
  exact pl_iff hv.le _ 0 _ [] l (by have:=hv.days;omega) (by unfold left0;simpa using hv.l4) (fun t m=>by cases m) (inv0 hv) hl
/-! the law's own search -/
def tstAt (n:Nat) (p:Nat):Tst:=⟨(p / n:Nat),(p % n:Nat)⟩
def goDn (f:Nat→Pln) (lo:Nat):Nat→Pln
  | 0=>([],false)
  | n+1=>if n<lo then ([],false) else if (f n).2=true then ((f n).1,true) else goDn f lo n
def loN (ps:List Nat):Nat:=match ps.getLast? with
  | none=>0
  | some p=>p+1
def topN (s:Sls):Nat:=(s.days+1).toNat * s.lef.length
def betP (s:Sls):Nat→List Nat→Pln
  | 0,ps=>(ps.map (tstAt s.lef.length),keptB s (ps.map (tstAt s.lef.length)))
  | m+1,ps=>goDn (fun n=>betP s m (ps++[n])) (loN ps) (topN s)
structure Ext (lo t m:Nat) (qs:List Nat):Prop where
  srt:qs.Pairwise (· < ·)
  dom:∀q∈qs,lo≤q∧q<t
  len:qs.length=m
theorem goDn_yes {f : Nat → Pln} {lo : Nat} : ∀ {n : Nat}, (goDn f lo n).2 = true → ∃ p, (lo ≤ p ∧ p < n) ∧ (f p).2 = true ∧ (goDn f lo n).1 = (f p).1 ∧ ∀ q, p < q → q < n → (f q).2 = false
  | 0,h=>by cases h
  | n + 1, h => by
    rw [goDn] at h ⊢
    by_cases hl:n<lo
    · rw [if_pos hl] at h;cases h
    · rw [if_neg hl] at h ⊢
      by_cases hf:(f n).2=true
      · rw [if_pos hf]
        exact ⟨n,⟨by omega,by omega⟩,hf,rfl,fun q h1 h2=>by omega⟩
      · rw [if_neg hf] at h ⊢
        obtain ⟨p,h1,h2,h3,h4⟩:=goDn_yes h
        refine ⟨p,⟨h1.1,by omega⟩,h2,h3,fun q g1 g2=>?_⟩
        by_cases e:q=n
        · subst e;simpa using hf
        · exact h4 q g1 (by omega)
theorem goDn_no {f : Nat → Pln} {lo : Nat} : ∀ {n : Nat}, (goDn f lo n).2 = false → ∀ p, lo ≤ p → p < n → (f p).2 = false
  | 0,_,p,_,h=>by omega
  | n + 1, h, p, h1, h2 => by
    rw [goDn] at h
    by_cases hl:n<lo
    · omega
    · rw [if_neg hl] at h
      by_cases hf:(f n).2=true
      · rw [if_pos hf] at h;cases h
      · rw [if_neg hf] at h
        by_cases e:p=n
        · subst e;simpa using hf
        · exact goDn_no h p h1 (by omega)
theorem tstAt_lt {n p q:Nat}(hn:0<n) (h:p<q):tLt (tstAt n p) (tstAt n q):=by
  unfold tLt tstAt
  have h1:p / n≤q / n:=Nat.div_le_div_right (by omega)
  have h2:=Nat.div_add_mod p n
  have h3:=Nat.div_add_mod q n
  simp only
  by_cases e:p / n=q / n
  · rw [e] at h2
    exact .inr ⟨by omega,by omega⟩
  · exact .inl (by omega)
theorem ext_cons {lo t m p:Nat}{qs:List Nat}:Ext lo t (m+1) (p :: qs)↔(lo≤p∧p<t)∧Ext (p+1) t m qs:=by
  constructor
  · rintro ⟨h1,h2,h3⟩
    rw [List.pairwise_cons] at h1
    exact ⟨h2 p (List.mem_cons_self ..),h1.2,fun q m=>⟨h1.1 q m,(h2 q (List.mem_cons_of_mem _ m)).2⟩,by simpa using h3⟩
  · rintro ⟨h,h1,h2,h3⟩
    refine ⟨List.pairwise_cons.2 ⟨fun q m=>(h2 q m).1,h1⟩,fun q m=>?_,by simp [h3]⟩
    rcases List.mem_cons.1 m with e | m
    · rw [e];exact h
    · have:=h2 q m;omega
theorem loN_snoc (ps:List Nat) (p:Nat):loN (ps++[p])=p+1:=by unfold loN;simp
structure BetOk (s:Sls) (m:Nat) (ps:List Nat) (x:Pln):Prop where
  yes:x.2=true→∃qs,Ext (loN ps) (topN s) m qs∧x.1=(ps++qs).map (tstAt s.lef.length)∧keptB s x.1=true∧∀qs',Ext (loN ps) (topN s) m qs'→keptB s ((ps++qs').map (tstAt s.lef.length))=true→qs'=qs∨laterB (qs.map (tstAt s.lef.length)) (qs'.map (tstAt s.lef.length))=true
  no:x.2=false→∀qs,Ext (loN ps) (topN s) m qs→keptB s ((ps++qs).map (tstAt s.lef.length))=false
theorem betP_ok {s : Sls} (hn : 0 < s.lef.length) : ∀ (m : Nat) (ps : List Nat), BetOk s m ps (betP s m ps)
  | 0,ps=>by
    refine ⟨fun h=>⟨[],⟨List.Pairwise.nil,fun q m=>(by cases m),rfl⟩,by rw [List.append_nil];rfl,h,fun qs' e _=>.inl (List.length_eq_zero_iff.1 e.len)⟩,fun h qs e=>?_⟩
    rw [List.length_eq_zero_iff.1 e.len,List.append_nil];exact h
  | m + 1, ps => by
    have ih:=fun n=>betP_ok hn m (ps++[n])
    have app:∀n qs,(ps++[n])++qs=ps++n :: qs:=fun n qs=>by simp
    constructor
    · intro h
      obtain ⟨p,h1,h2,h3,h4⟩:=goDn_yes h
      obtain ⟨qs,g1,g2,g3,g4⟩:=(ih p).yes h2
      rw [loN_snoc] at g1 g4
      rw [app] at g2
      have e:(betP s (m+1) ps).1=(betP s m (ps++[p])).1:=h3
      refine ⟨p :: qs,ext_cons.2 ⟨h1,g1⟩,by rw [e];exact g2,by rw [e];exact g3,fun qs' k1 k2=>?_⟩
      cases qs' with
      | nil=>have:=k1.len;simp at this
      | cons q qs' =>
        obtain ⟨c1,c2⟩:=ext_cons.1 k1
        by_cases e1:q=p
        · subst e1
          rcases g4 qs' c2 (by rw [app];exact k2) with z | z
          · exact .inl (by rw [z])
          · exact .inr (by rw [List.map_cons,List.map_cons,laterB_cons];exact .inl ⟨rfl,z⟩)
        · by_cases e2:p<q
          · have:=(ih q).no (h4 q e2 c1.2) qs' (by rw [loN_snoc];exact c2)
            rw [app,k2] at this;cases this
          · exact .inr (by rw [List.map_cons,List.map_cons,laterB_cons];exact .inr (tstAt_lt hn (by omega)))
    · intro h qs k1
      cases qs with
      | nil=>have:=k1.len;simp at this
      | cons q qs =>
        obtain ⟨c1,c2⟩:=ext_cons.1 k1
        have:=(ih q).no (goDn_no h q c1.1 c1.2) qs (by rw [loN_snoc];exact c2)
        rwa [app] at this
theorem ext_asc {s:Sls}(hn:0<s.lef.length) (hd:0≤s.days){m:Nat}{qs:List Nat}(h:Ext 0 (topN s) m qs):AscT s 0 (qs.map (tstAt s.lef.length)):=by
  refine ⟨List.pairwise_map.2 (h.srt.imp fun k=>tstAt_lt hn k),fun t m=>?_⟩
  obtain ⟨q,mq,rfl⟩:=List.mem_map.1 m
  have h1:=(h.dom q mq).2
  have h2:=Nat.mod_lt q hn
  have h3:q / s.lef.length<(s.days+1).toNat:=(Nat.div_lt_iff_lt_mul hn).2 h1
  have e1:(tstAt s.lef.length q).day=((q / s.lef.length:Nat):Int):=rfl
  have e2:(tstAt s.lef.length q).sc=((q % s.lef.length:Nat):Int):=rfl
  rw [e1,e2]
  clear e1 e2
  generalize q / s.lef.length=x at *
  generalize q % s.lef.length=y at *
  omega
theorem asc_get {s:Sls}{l:List Tst}(h:AscT s 0 l):∃qs,Ext 0 (topN s) l.length qs∧l=qs.map (tstAt s.lef.length):=by
  have back:∀t∈l,((t.day.toNat * s.lef.length+t.sc.toNat) / s.lef.length=t.day.toNat∧(t.day.toNat * s.lef.length+t.sc.toNat) % s.lef.length=t.sc.toNat):=fun t m=>by
    have:=h.dom t m
    have hs:t.sc.toNat<s.lef.length:=by omega
    rw [Nat.mul_comm,Nat.mul_add_div (by omega),Nat.mul_add_mod,Nat.div_eq_of_lt hs,Nat.mod_eq_of_lt hs]
    exact ⟨rfl,rfl⟩
  refine ⟨l.map fun t=>t.day.toNat * s.lef.length+t.sc.toNat,⟨?_,fun q m=>?_,by simp⟩, ?_⟩
  · rw [List.pairwise_map]
    refine List.Pairwise.imp_of_mem (fun {a b} ha hb k=>?_) h.srt
    have d1:=h.dom a ha
    have d2:=h.dom b hb
    unfold tLt at k
    rcases k with k | k
    · have:(a.day.toNat+1) * s.lef.length≤b.day.toNat * s.lef.length:=Nat.mul_le_mul_right _ (by omega)
      rw [Nat.add_mul] at this
      omega
    · rw [k.1];omega
  · obtain ⟨t,mt,rfl⟩:=List.mem_map.1 m
    have d1:=h.dom t mt
    have:(t.day.toNat+1) * s.lef.length≤(s.days+1).toNat * s.lef.length:=Nat.mul_le_mul_right _ (by omega)
    rw [Nat.add_mul] at this
    unfold topN
    omega
  · rw [List.map_map]
    refine (List.map_id l).symm.trans (List.map_congr_left fun t m=>?_)
    obtain ⟨b1,b2⟩:=back t m
    have d1:=h.dom t m
    obtain ⟨x,y⟩:=t
    simp only at b1 b2 d1
    simp only [Function.comp_def,tstAt,id]
    rw [b1,b2]
    rw [show ((x.toNat:Nat):Int)=x by omega,show ((y.toNat:Nat):Int)=y by omega]
theorem ext_len:∀ {qs:List Nat}{lo t m:Nat},Ext lo t m qs→lo≤t→m≤t-lo
  | [],lo,t,m,h,_=>by rw [←h.len];exact Nat.zero_le _
  | q :: qs,lo,t,0,h,_=>Nat.zero_le _
  | q :: qs,lo,t,m+1,h,hl=>by
    obtain ⟨h1,h2⟩:=ext_cons.1 h
    have:=ext_len h2 (by omega)
    omega
structure Few (s:Sls):Prop where
  kept:(planP s).2=true→keptB s (planP s).1=true
  len:(planP s).2=true→(planP s).1.length≤topN s
  less:(planP s).2=true→∀m,m<(planP s).1.length→(betP s m []).2=false
  same:(planP s).2=true→betP s (planP s).1.length []=((planP s).1,true)
  none:(planP s).2=false→∀m,(betP s m []).2=false
theorem few_ok {s : Sls} (hv : ValidS s) : Few s := by
  have hn:0<s.lef.length:=hv.l1
  have b:BestPl (Pl s (s.days+1).toNat 0 (left0 s)) (planP s):=planF_best s _ 0 _
  have asc:∀ {l},Pl s (s.days+1).toNat 0 (left0 s) l→AscT s 0 l:=fun h=>pl_asc hv.le _ 0 _ _ (by have:=hv.days;omega) h
  have pl:∀ {m qs},Ext 0 (topN s) m qs→keptB s (([]++qs).map (tstAt s.lef.length))=true→Pl s (s.days+1).toNat 0 (left0 s) (qs.map (tstAt s.lef.length)):=fun e k=>(plP_iff hv (ext_asc hn hv.days.1 e)).2 k
  refine ⟨fun h=>(plP_iff hv (asc (b.yes h).1)).1 (b.yes h).1,fun h=>?_,fun h m hm=>?_,fun h=>?_,fun h m=>?_⟩
  · obtain ⟨qs,e1,e2⟩:=asc_get (asc (b.yes h).1)
    have:=ext_len e1 (Nat.zero_le _)
    omega
  · cases hc:(betP s m []).2
    · rfl
    · obtain ⟨qs,g1,g2,g3,g4⟩:=(betP_ok hn m []).yes hc
      rw [g2] at g3
      have:=(b.yes h).2 _ (pl g1 g3)
      have hl:=g1.len
      unfold betR at this
      rw [List.length_map,hl] at this
      omega
  · obtain ⟨qs,e1,e2⟩:=asc_get (asc (b.yes h).1)
    have hk:=(plP_iff hv (asc (b.yes h).1)).1 (b.yes h).1
    cases hc:(betP s (planP s).1.length []).2
    · have:=(betP_ok hn _ []).no hc qs e1
      rw [List.nil_append,←e2,hk] at this;cases this
    · obtain ⟨rs,g1,g2,g3,g4⟩:=(betP_ok hn _ []).yes hc
      have e3:(betP s (planP s).1.length []).1=(planP s).1:=by
        rw [g2,List.nil_append]
        rw [g2] at g3
        have k1:=(b.yes h).2 _ (pl g1 g3)
        have hl:=g1.len
        rcases g4 qs e1 (by rw [List.nil_append,←e2];exact hk) with z | z
        · rw [←z];exact e2.symm
        · rw [←e2] at z
          rcases k1 with k1 | ⟨k1,k2 | k2⟩
          · rw [List.length_map,hl] at k1;omega
          · exact k2.symm
          · exact (laterB_irr (laterB_trans z k2)).elim
      exact Prod.ext e3 hc
  · cases hc:(betP s m []).2
    · rfl
    · obtain ⟨qs,g1,g2,g3,g4⟩:=(betP_ok hn m []).yes hc
      rw [g2] at g3
      exact absurd (pl g1 g3) (b.no h _)
end Go.Sim
