/- Rings of a function on finitely many numbers (plain). -/
namespace Go.Plain
theorem nodup_subset_length {α:Type} [DecidableEq α]:∀ {l L:List α},l.Nodup→(∀x∈l,x∈L)→l.length≤L.length
  | [],_,_,_=>Nat.zero_le _
  | x :: l, L, hn, hs => by
    have hx:=hs x (by simp)
    have ih:=nodup_subset_length (L:=L.erase x) (List.nodup_cons.1 hn).2 (fun y hy=>by
      have hne:y≠x:=fun e=>(List.nodup_cons.1 hn).1 (e▸hy)
      exact (List.mem_erase_of_ne hne).2 (hs y (by simp [hy])))
    rw [List.length_erase_of_mem hx] at ih
    have:=List.length_pos_of_mem hx
    simp only [List.length_cons];omega
def itr (f:Nat→Nat):Nat→Nat→Nat
  | 0,m=>m
  | k+1,m=>f (itr f k m)
theorem itr_add (f:Nat→Nat) (a:Nat):∀(b m:Nat),itr f (a+b) m=itr f b (itr f a m)
  | 0,m=>rfl
  | b+1,m=>by show f (itr f (a+b) m)=f (itr f b (itr f a m));rw [itr_add f a b m]
def orb (f:Nat→Nat) (m k:Nat):List Nat:=(List.range k).map fun j=>itr f j m
theorem orb_length (f:Nat→Nat) (m k:Nat):(orb f m k).length=k:=by simp [orb]
theorem orb_succ (f:Nat→Nat) (m k:Nat):orb f m (k+1)=orb f m k++[itr f k m]:=by simp [orb,List.range_succ]
theorem mem_orb {f:Nat→Nat}{m k x:Nat}:x∈orb f m k↔∃j,j<k∧itr f j m=x:=by simp [orb]
structure First (f:Nat→Nat) (m k:Nat):Prop where
  pos:1≤k
  back:itr f k m=m
  first:∀j,0<j→j<k→itr f j m≠m
theorem First.inj {f:Nat→Nat}{m k:Nat}(h:First f m k){a b:Nat}(hab:a<b) (hb:b<k):itr f a m≠itr f b m:=by
  intro he
  have e1:itr f (b+(k-b)) m=itr f (a+(k-b)) m:=by rw [itr_add,itr_add,he]
  rw [show b+(k-b)=k from by omega,h.back] at e1
  exact h.first (a+(k-b)) (by omega) (by omega) e1.symm
theorem orb_nodup {f:Nat→Nat}{m k:Nat}(h:First f m k):(orb f m k).Nodup:=by
  unfold orb
  rw [List.Nodup,List.pairwise_map]
  refine List.Pairwise.imp_of_mem (R:=fun a b=>a<b) (fun {a b} ha hb hab=>?_) List.pairwise_lt_range
  exact h.inj hab (by simpa using hb)
def Closed (f:Nat→Nat) (L:List Nat):Prop:=∀x∈L,f x∈L
theorem Closed.itr {f:Nat→Nat}{L:List Nat}(h:Closed f L){m:Nat}(hm:m∈L):∀k,itr f k m∈L
  | 0=>hm
  | k+1=>h _ (Closed.itr h hm k)
theorem First.le {f:Nat→Nat}{L:List Nat}(hc:Closed f L){m k:Nat}(hm:m∈L) (h:First f m k):k≤L.length:=by
  have:=nodup_subset_length (orb_nodup h) (L:=L) (fun x hx=>by
    obtain ⟨j,_,rfl⟩:=mem_orb.1 hx
    exact hc.itr hm j)
  rwa [orb_length] at this
def IsRing (f:Nat→Nat) (m:Nat) (r:List Nat):Prop:=∃k,First f m k∧(∀j,j<k→m≤itr f j m)∧r=orb f m k
/-! ### how the program goes -/
def goP (f:Nat→Nat) (i:Nat):Nat→List Nat→Nat→Option (List Nat)
  | 0,_,_=>none
  | n+1,ring,at_=>if at_=i then some ring else if at_<i∨at_∈ring then none else goP f i n (ring++[at_]) (f at_)
theorem goP_orb {f : Nat → Nat} {m : Nat} : ∀ {n k : Nat} {r : List Nat}, 1 ≤ k → (∀ j, 0 < j → j < k → itr f j m ≠ m) → (∀ j, j < k → m ≤ itr f j m) → goP f m n (orb f m k) (itr f k m) = some r → IsRing f m r
  | 0,k,r,_,_,_,h=>by simp [goP] at h
  | n + 1, k, r, hk, h1, h2, h => by
    rw [goP] at h
    split at h
    · rename_i hb;cases h;exact ⟨k,⟨hk,hb,h1⟩,h2,rfl⟩
    · rename_i hb
      split at h
      · cases h
      · rename_i hx
        rw [←orb_succ] at h
        exact goP_orb (k:=k+1) (by omega) (fun j hj hjk=>by
          by_cases e:j=k
          · subst e;exact hb
          · exact h1 j hj (by omega)) (fun j hj=>by
          by_cases e:j=k
          · subst e;omega
          · exact h2 j (by omega)) h
theorem goP_ring {f : Nat → Nat} {m K : Nat} (hF : First f m K) (hmin : ∀ j, j < K → m ≤ itr f j m) : ∀ {n k : Nat}, 1 ≤ k → k ≤ K → K < n + k → goP f m n (orb f m k) (itr f k m) = some (orb f m K)
  | 0,k,h1,h2,h3=>by omega
  | n + 1, k, h1, h2, h3 => by
    rw [goP]
    by_cases hk:k=K
    · subst hk;rw [if_pos hF.back]
    · rw [if_neg (hF.first k h1 (by omega)),if_neg,←orb_succ]
      · exact goP_ring hF hmin (k:=k+1) (by omega) (by omega) (by omega)
      · rintro (h | h)
        · have:=hmin k (by omega);omega
        · obtain ⟨j,hj,e⟩:=mem_orb.1 h
          exact hF.inj hj (by omega) e
def ringP (f:Nat→Nat) (n i:Nat):Option (List Nat):=goP f i n [i] (f i)
theorem ringP_iff {f:Nat→Nat}{L:List Nat}(hc:Closed f L){m n:Nat}(hm:m∈L) (hn:L.length≤n){r:List Nat}:ringP f n m=some r↔IsRing f m r:=by
  have e1:ringP f n m=goP f m n (orb f m 1) (itr f 1 m):=rfl
  constructor
  · intro h
    rw [e1] at h
    exact goP_orb (Nat.le_refl 1) (fun j h1 h2 => by omega) (fun j hj => by have : j = 0 := by omega
                                                                            subst this;exact Nat.le_refl _) h
  · rintro ⟨K,hF,hmin,rfl⟩
    rw [e1]
    have:=hF.le hc hm
    have:=hF.pos
    exact goP_ring hF hmin (Nat.le_refl 1) hF.pos (by omega)
/-! ### some ring there is -/
theorem exists_least (p:Nat→Prop) [DecidablePred p]:∀n,p n→∃m,p m∧∀j,j<m→¬p j:=by
  intro n
  induction n using Nat.strongRecOn with
  | _ n ih =>
    intro hn
    by_cases h:∃j,j<n∧p j
    · obtain ⟨j,hj,hp⟩:=h;exact ih j hj hp
    · exact ⟨n,hn,fun j hj hp=>h ⟨j,hj,hp⟩⟩
theorem not_nodup {f : Nat → Nat} {m : Nat} : ∀ {k : Nat}, ¬ (orb f m k).Nodup → ∃ a b, a < b ∧ b < k ∧ itr f a m = itr f b m
  | 0,h=>absurd List.nodup_nil h
  | k + 1, h => by
    rw [orb_succ,List.nodup_append] at h
    by_cases h1:(orb f m k).Nodup
    · have:∃a∈orb f m k,a=itr f k m:=by
        refine Classical.byContradiction fun hne=>h ⟨h1,by simp,fun a ha b hb=>?_⟩
        simp at hb;subst hb
        exact fun e=>hne ⟨a,ha,e⟩
      obtain ⟨a,ha,e⟩:=this
      obtain ⟨j,hj,rfl⟩:=mem_orb.1 ha
      exact ⟨j,k,hj,by omega,e⟩
    · obtain ⟨a,b,h2,h3,h4⟩:=not_nodup h1
      exact ⟨a,b,h2,by omega,h4⟩
theorem exists_first {f:Nat→Nat}{m k:Nat}(hk:1≤k) (hb:itr f k m=m):∃K,First f m K:=by
  obtain ⟨K,⟨h1,h2⟩,h3⟩:=exists_least (fun j=>1≤j∧itr f j m=m) k ⟨hk,hb⟩
  exact ⟨K,h1,h2,fun j hj hjk he=>h3 j hjk ⟨hj,he⟩⟩
theorem exists_min : ∀ (l : List Nat), l ≠ [] → ∃ m ∈ l, ∀ x ∈ l, m ≤ x
  | [],h=>absurd rfl h
  | [x],_=>⟨x,by simp,fun y hy=>by simp at hy;omega⟩
  | x :: y :: r,_=>by
    obtain ⟨m,h1,h2⟩:=exists_min (y :: r) (by simp)
    by_cases h:x≤m
    · exact ⟨x,by simp,fun z hz=>by
        rcases List.mem_cons.1 hz with rfl | hz
        · exact Nat.le_refl _
        · exact Nat.le_trans h (h2 z hz)⟩
    · exact ⟨m,List.mem_cons_of_mem _ h1,fun z hz=>by
        rcases List.mem_cons.1 hz with rfl | hz
        · omega
        · exact h2 z hz⟩
theorem exists_ring {f : Nat → Nat} {L : List Nat} (hc : Closed f L) {x : Nat} (hx : x ∈ L) : ∃ m ∈ L, ∃ r, IsRing f m r := by
  have hnn:¬(orb f x (L.length+1)).Nodup:=fun hn=>by
    have:=nodup_subset_length hn (L:=L) (fun y hy=>by
      obtain ⟨j,_,rfl⟩:=mem_orb.1 hy
      exact hc.itr hx j)
    rw [orb_length] at this;omega
  obtain ⟨a,b,hab,_,he⟩:=not_nodup hnn
  have hp:itr f (b-a) (itr f a x)=itr f a x:=by rw [←itr_add,show a+(b-a)=b from by omega,he]
  obtain ⟨K,hF⟩:=exists_first (m:=itr f a x) (k:=b-a) (by omega) hp
  obtain ⟨m,hm,hmin⟩:=exists_min (orb f (itr f a x) K) (fun h=>by
    have:=congrArg List.length h
    rw [orb_length] at this
    have:=hF.pos
    simp at *;omega)
  obtain ⟨s,hs,rfl⟩:=mem_orb.1 hm
  have hall:∀j,itr f (s+j) (itr f a x)∈orb f (itr f a x) K:=by
    have step:∀j,itr f j (itr f a x)∈orb f (itr f a x) K:=by
      intro j
      induction j with
      | zero=>exact mem_orb.2 ⟨0,hF.pos,rfl⟩
      | succ j ih =>
        obtain ⟨t,ht,e⟩:=mem_orb.1 ih
        show f (itr f j (itr f a x))∈_
        rw [←e]
        by_cases h:t+1<K
        · exact mem_orb.2 ⟨t+1,h,rfl⟩
        · have:t+1=K:=by omega
          refine mem_orb.2 ⟨0,hF.pos, ?_⟩
          show itr f a x=itr f (t+1) (itr f a x)
          rw [this,hF.back]
    exact fun j=>step (s+j)
  have hback:itr f K (itr f s (itr f a x))=itr f s (itr f a x):=by
    rw [←itr_add,Nat.add_comm s K,itr_add,hF.back]
  obtain ⟨K',hF'⟩:=exists_first hF.pos hback
  exact ⟨_,hc.itr (hc.itr hx a) s,_,K',hF',fun j _=>by have:=hmin _ (hall j);rw [itr_add] at this;exact this,rfl⟩
#print axioms exists_ring
end Go.Plain
