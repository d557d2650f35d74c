/- All rings, round by round (plain). -/
import Derived.Test.YtholkejjmookfaaDoorRa
namespace Go.Plain
def roundF (f:Nat→Nat) (L:List Nat) (n:Nat):List (List Nat):=(List.range n).filterMap fun i=>if i∈L then ringP f n i else none
def eraseAll (l L:List Nat):List Nat:=l.foldl List.erase L
def ringsF (g:List Nat→Nat→Nat) (n:Nat):Nat→List Nat→List (List Nat)
  | 0,_=>[]
  | k+1,L=>if L=[] then [] else roundF (g L) L n++ringsF g n k (eraseAll (roundF (g L) L n).flatten L)
theorem eraseAll_append (a b L:List Nat):eraseAll (a++b) L=eraseAll b (eraseAll a L):=by simp [eraseAll]
theorem eraseAll_snoc (a:List Nat) (x:Nat) (L:List Nat):eraseAll (a++[x]) L=(eraseAll a L).erase x:=by simp [eraseAll]
theorem eraseAll_sub:∀(l L:List Nat),(eraseAll l L).Sublist L
  | [],L=>List.Sublist.refl L
  | x :: l,L=>(eraseAll_sub l (L.erase x)).trans List.erase_sublist
theorem eraseAll_nodup {l L:List Nat}(h:L.Nodup):(eraseAll l L).Nodup:=h.sublist (eraseAll_sub l L)
theorem mem_eraseAll {L:List Nat}(h:L.Nodup):∀ {l:List Nat}{x:Nat},x∈eraseAll l L↔x∈L∧x ∉ l:=by
  intro l
  induction l generalizing L with
  | nil=>intro x;simp [eraseAll]
  | cons y l ih =>
    intro x
    have h2:(L.erase y).Nodup:=h.sublist List.erase_sublist
    show x∈eraseAll l (L.erase y)↔_
    rw [ih h2,h.mem_erase_iff]
    simp only [List.mem_cons,not_or]
    constructor
    · rintro ⟨⟨h1,h2⟩,h3⟩;exact ⟨h2,h1,h3⟩
    · rintro ⟨h1,h2,h3⟩;exact ⟨⟨h2,h1⟩,h3⟩
theorem eraseAll_lt {L l:List Nat}(h:L.Nodup){x:Nat}(hx:x∈L) (hl:x∈l):(eraseAll l L).length<L.length:=by
  have h1:=(eraseAll_sub l L).length_le
  by_cases he:(eraseAll l L).length=L.length
  · have:=(eraseAll_sub l L).eq_of_length he
    rw [←this,mem_eraseAll h] at hx
    exact absurd hl hx.2
  · omega
theorem mem_roundF {f:Nat→Nat}{L:List Nat}{n:Nat}(hc:Closed f L) (hn:L.length≤n) (hL:∀x∈L,x<n){r:List Nat}:r∈roundF f L n↔∃m∈L,IsRing f m r:=by
  simp only [roundF,List.mem_filterMap,List.mem_range]
  constructor
  · rintro ⟨i,hi,h⟩
    split at h
    · rename_i hm;exact ⟨i,hm,(ringP_iff hc hm hn).1 h⟩
    · cases h
  · rintro ⟨m,hm,hr⟩
    exact ⟨m,hL m hm,by rw [if_pos hm];exact (ringP_iff hc hm hn).2 hr⟩
theorem IsRing.mem {f:Nat→Nat}{L:List Nat}(hc:Closed f L){m:Nat}(hm:m∈L){r:List Nat}(h:IsRing f m r):(∀x∈r,x∈L)∧m∈r:=by
  obtain ⟨k,hF,_,rfl⟩:=h
  exact ⟨fun x hx=>by obtain ⟨j,_,rfl⟩:=mem_orb.1 hx;exact hc.itr hm j,mem_orb.2 ⟨0,hF.pos,rfl⟩⟩
theorem round_lt {f:Nat→Nat}{L:List Nat}{n:Nat}(hc:Closed f L) (hd:L.Nodup) (hL:∀x∈L,x<n) (hne:L≠[]) (hn:L.length≤n):(eraseAll (roundF f L n).flatten L).length<L.length:=by
  obtain ⟨x,hx⟩:=List.exists_mem_of_ne_nil L hne
  obtain ⟨m,hm,r,hr⟩:=exists_ring hc hx
  exact eraseAll_lt hd hm (List.mem_flatten.2 ⟨r,(mem_roundF hc hn hL).2 ⟨m,hm,hr⟩,(hr.mem hc hm).2⟩)
theorem le_of_nodup_lt {L:List Nat}{n:Nat}(hd:L.Nodup) (hL:∀x∈L,x<n):L.length≤n:=by
  have:=nodup_subset_length hd (L:=List.range n) (fun x hx=>List.mem_range.2 (hL x hx))
  simpa using this
theorem ringsF_fuel {g:List Nat→Nat→Nat}{n:Nat}(hg:∀L,Closed (g L) L):∀ {a b:Nat}{L:List Nat},L.Nodup→(∀x∈L,x<n)→L.length≤a→L.length≤b→ringsF g n a L=ringsF g n b L
  | 0,0,L,_,_,_,_=>rfl
  | 0,b+1,L,_,_,h,_=>by
    have:L=[]:=List.eq_nil_of_length_eq_zero (by omega)
    subst this;simp [ringsF]
  | a+1,0,L,_,_,_,h=>by
    have:L=[]:=List.eq_nil_of_length_eq_zero (by omega)
    subst this;simp [ringsF]
  | a + 1, b + 1, L, hd, hL, h1, h2 => by
    simp only [ringsF]
    split
    · rfl
    · rename_i hne
      have hlt:=round_lt (hg L) hd hL hne (le_of_nodup_lt hd hL)
      rw [ringsF_fuel hg (a:=a) (b:=b) (eraseAll_nodup hd) (fun x hx=>hL x ((mem_eraseAll hd).1 hx).1) (by omega) (by omega)]
def allRings (g:List Nat→Nat→Nat) (n:Nat):List (List Nat):=ringsF g n n (List.range n)
#print axioms ringsF_fuel
end Go.Plain
