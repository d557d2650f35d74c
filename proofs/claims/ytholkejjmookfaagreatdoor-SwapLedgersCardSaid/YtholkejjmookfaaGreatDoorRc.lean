/- Rings of a round share nobody; how many are left (plain). -/
import Derived.Test.YtholkejjmookfaaGreatDoorRb
namespace Go.Plain
theorem orb_closed {f:Nat→Nat}{m K:Nat}(h:First f m K){x:Nat}(hx:x∈orb f m K):f x∈orb f m K:=by
  obtain ⟨j,hj,rfl⟩:=mem_orb.1 hx
  rw [mem_orb]
  by_cases h1:j+1<K
  · exact ⟨j+1,h1,rfl⟩
  · have:j+1=K:=by omega
    refine ⟨0,h.pos, ?_⟩
    have hb:=h.back
    rw [←this] at hb
    exact hb.symm
theorem orb_iter {f:Nat→Nat}{m K:Nat}(h:First f m K){x:Nat}(hx:x∈orb f m K):∀j,itr f j x∈orb f m K
  | 0=>hx
  | j+1=>orb_closed h (orb_iter h hx j)
theorem orb_back {f:Nat→Nat}{m K:Nat}(h:First f m K){x:Nat}(hx:x∈orb f m K):∃j,itr f j x=m:=by
  obtain ⟨j,hj,rfl⟩:=mem_orb.1 hx
  refine ⟨K-j, ?_⟩
  rw [←itr_add,show j+(K-j)=K by omega]
  exact h.back
theorem IsRing.le {f:Nat→Nat}{m m' : Nat}{r r' : List Nat}(h:IsRing f m r) (h' : IsRing f m' r'){x:Nat}(hx:x∈r) (hx' : x∈r'):m'≤m:=by
  obtain ⟨K,h1,h2,rfl⟩:=h
  obtain ⟨K',h1',h2',rfl⟩:=h'
  obtain ⟨j,hj⟩:=orb_back h1 hx
  have:=orb_iter h1' hx' j
  rw [hj] at this
  obtain ⟨i,hi,he⟩:=mem_orb.1 this
  rw [←he]
  exact h2' i hi
theorem IsRing.same {f:Nat→Nat}{m m' : Nat}{r r' : List Nat}(h:IsRing f m r) (h' : IsRing f m' r'){x:Nat}(hx:x∈r) (hx' : x∈r'):m=m':=
  Nat.le_antisymm (h'.le h hx' hx) (h.le h' hx hx')
end Go.Plain
