/- The reference's tables: what the pivots give. -/
import Derived.Test.YtojjfnhjmfokhaaQe
set_option linter.unusedVariables false
set_option linter.unusedSimpArgs false
namespace Go.Sim
def SolK (n:Nat) (K:KT) (y:Nat→Int):Prop:=∀u v,u<n→v<n→y v-y u≤at1 K u v
def NegD (n:Nat) (K:KT):Prop:=∃u,u<n∧at1 K u u<0
def Diag0 (n:Nat) (K:KT):Prop:=∀u,u<n→at1 K u u=0
def ClK (n:Nat) (K:KT) (m:Nat):Prop:=∀u v j,u<n→v<n→j<m→at1 K u v≤at1 K u j+at1 K j v
def BdK (n:Nat) (K:KT) (W:Int):Prop:=∀u v,u<n→v<n→-W≤at1 K u v∧at1 K u v≤1099511627776
theorem NegD.no {n:Nat}{K:KT}{y:Nat→Int}(h:NegD n K) (hs:SolK n K y):False:=by
  obtain ⟨u,hu,h⟩:=h
  have:=hs u u hu hu
  omega
theorem fwS_le {n:Nat}{K:KT}(hs:SqK n K){m u v:Nat}(hu:u<n) (hv:v<n){i k:Nat}:at1 (fwS K m u v) i k≤at1 K i k:=by
  unfold fwS
  rw [at1_set hs hu hv]
  split
  · rename_i h;rw [h.1,h.2];omega
  · omega
theorem fwV_le {n:Nat}{K:KT}(hs:SqK n K){m u:Nat}(hu:u<n):∀c,c≤n→∀i k,at1 (fwV m u K c) i k≤at1 K i k
  | 0,_,i,k=>Int.le_refl _
  | c+1,hc,i,k=>Int.le_trans (fwS_le (fwV_sq hs hu c) hu (by omega)) (fwV_le hs hu c (by omega) i k)
theorem fwU_le {n:Nat}{K:KT}(hs:SqK n K){m:Nat}:∀r,r≤n→∀i k,at1 (fwU n m K r) i k≤at1 K i k
  | 0,_,i,k=>Int.le_refl _
  | r+1,hr,i,k=>Int.le_trans (fwV_le (fwU_sq hs r (by omega)) (by omega) n (Nat.le_refl _) i k) (fwU_le hs r (by omega) i k)
theorem fwV_at {n:Nat}{K:KT}(hs:SqK n K){m u:Nat}(hm:m<n) (hu:u<n) (h0:at1 K m m=0) (hb:∀k,k<n→-9223372036854775808≤at1 K u m+at1 K m k∧at1 K u m+at1 K m k≤9223372036854775807) :
    ∀c,c≤n→∀i k,k<n→at1 (fwV m u K c) i k=if i=u∧k<c then min (at1 K u k) (at1 K u m+at1 K m k) else at1 K i k
  | 0,_,i,k,_=>by rw [if_neg (by omega)];rfl
  | c + 1, hc, i, k, hk => by
    have ih:=fwV_at hs hm hu h0 hb c (by omega)
    have e1:at1 (fwV m u K c) u m=at1 K u m:=by
      rw [ih u m hm]
      split
      · rw [h0];omega
      · rfl
    have e2:at1 (fwV m u K c) m c=at1 K m c:=by
      rw [ih m c (by omega),if_neg (by omega)]
    have e3:at1 (fwV m u K c) u c=at1 K u c:=by
      rw [ih u c (by omega),if_neg (by omega)]
    have hbc:=hb c (by omega)
    show at1 (fwS (fwV m u K c) m u c) i k=_
    unfold fwS
    rw [at1_set (fwV_sq hs hu c) hu (by omega),e1,e2,e3,wrap_i64 (by omega) (by omega)]
    by_cases h:i=u∧k=c
    · rw [if_pos h,if_pos ⟨h.1,by omega⟩,h.2]
    · rw [if_neg h,ih i k hk]
      by_cases h2:i=u∧k<c
      · rw [if_pos h2,if_pos ⟨h2.1,by omega⟩]
      · rw [if_neg h2,if_neg (by omega)]
theorem fwU_at {n:Nat}{K:KT}(hs:SqK n K){m:Nat}(hm:m<n) (h0:at1 K m m=0) (hb:∀u k,u<n→k<n→-9223372036854775808≤at1 K u m+at1 K m k∧at1 K u m+at1 K m k≤9223372036854775807) :
    ∀r,r≤n→∀i k,k<n→at1 (fwU n m K r) i k=if i<r then min (at1 K i k) (at1 K i m+at1 K m k) else at1 K i k
  | 0,_,i,k,_=>by rw [if_neg (by omega)];rfl
  | r + 1, hr, i, k, hk => by
    have ih:=fwU_at hs hm h0 hb r (by omega)
    have e0:∀k,k<n→at1 (fwU n m K r) m k=at1 K m k:=fun k hk=>by
      rw [ih m k hk]
      split
      · rw [h0];omega
      · rfl
    have e1:∀k,k<n→at1 (fwU n m K r) r k=at1 K r k:=fun k hk=>by rw [ih r k hk,if_neg (by omega)]
    show at1 (fwV m r (fwU n m K r) n) i k=_
    rw [fwV_at (fwU_sq hs r (by omega)) hm (by omega) (by rw [e0 m hm,h0]) (fun k hk=>by rw [e1 m hm,e0 k hk];exact hb r k (by omega) hk) n (Nat.le_refl _) i k hk]
    by_cases h:i=r
    · subst h
      rw [if_pos ⟨rfl,hk⟩,if_pos (by omega),e1 k hk,e1 m hm,e0 k hk]
    · rw [if_neg (by omega),ih i k hk]
      by_cases h2:i<r
      · rw [if_pos h2,if_pos (by omega)]
      · rw [if_neg h2,if_neg (by omega)]
theorem pivot_at {n:Nat}{K:KT}(hs:SqK n K){m:Nat}(hm:m<n) (h0:at1 K m m=0){W:Int}(hb:BdK n K W) (hW:W≤4611686018427387904){i k:Nat}(hi:i<n) (hk:k<n):at1 (fwU n m K n) i k=min (at1 K i k) (at1 K i m+at1 K m k):=by
  rw [fwU_at hs hm h0 (fun u k hu hk=>by
    have h1:=hb u m hu hm
    have h2:=hb m k hm hk
    omega) n (Nat.le_refl _) i k hk,if_pos hi]
theorem pivot_sol {n:Nat}{K:KT}(hs:SqK n K){m:Nat}(hm:m<n) (h0:at1 K m m=0){W:Int}(hb:BdK n K W) (hW:W≤4611686018427387904) (y:Nat→Int):SolK n (fwU n m K n) y↔SolK n K y:=by
  constructor
  · intro h u v hu hv
    exact Int.le_trans (h u v hu hv) (fwU_le hs n (Nat.le_refl _) u v)
  · intro h u v hu hv
    rw [pivot_at hs hm h0 hb hW hu hv]
    have h1:=h u v hu hv
    have h2:=h u m hu hm
    have h3:=h m v hm hv
    omega
theorem pivot_cl {n:Nat}{K:KT}(hs:SqK n K){m:Nat}(hm:m<n) (hd:Diag0 n K){W:Int}(hb:BdK n K W) (hW:W≤4611686018427387904) (hc:ClK n K m):ClK n (fwU n m K n) (m+1):=by
  have h0:=hd m hm
  intro u v j hu hv hj
  have hjn:j<n:=by omega
  rw [pivot_at hs hm h0 hb hW hu hv,pivot_at hs hm h0 hb hW hu hjn,pivot_at hs hm h0 hb hW hjn hv]
  by_cases e:j=m
  · subst e;rw [h0];omega
  · have hj' : j<m:=by omega
    have c1:=hc u v j hu hv hj'
    have c2:=hc m v j hm hv hj'
    have c3:=hc u m j hu hm hj'
    have c4:=hc m m j hm hm hj'
    omega
theorem pivot_bd {n:Nat}{K:KT}(hs:SqK n K){m:Nat}(hm:m<n) (h0:at1 K m m=0){W:Int}(hb:BdK n K W) (hp:0≤W) (hW:W≤4611686018427387904):BdK n (fwU n m K n) (2 * W):=by
  intro u v hu hv
  rw [pivot_at hs hm h0 hb hW hu hv]
  have h1:=hb u v hu hv
  have h2:=hb u m hu hm
  have h3:=hb m v hm hv
  omega
theorem fw_main {n : Nat} {K : KT} (hs : SqK n K) (hd : Diag0 n K) {W : Int} (hp : 0 ≤ W) (hb : BdK n K W) (hW : W * 2 ^ n ≤ 4611686018427387904) : ∀ m, m ≤ n →
    (NegD n (fwM n K m)∧∀y,¬SolK n K y)∨(Diag0 n (fwM n K m)∧BdK n (fwM n K m) (W * 2 ^ m)∧ClK n (fwM n K m) m∧∀y,SolK n (fwM n K m) y↔SolK n K y)
  | 0,_=>.inr ⟨hd,by simpa [fwM] using hb,fun u v j _ _ hj=>by omega,fun y=>Iff.rfl⟩
  | m + 1, hm => by
    have hsm:=fwM_sq hs m
    rcases fw_main hs hd hp hb hW m (by omega) with ⟨⟨u,hu,h1⟩,h2⟩ | ⟨h1,h2,h3,h4⟩
    · exact .inl ⟨⟨u,hu,Int.lt_of_le_of_lt (fwU_le hsm n (Nat.le_refl _) u u) h1⟩,h2⟩
    · have hmn:m<n:=by omega
      have hpm:(0:Int)<2 ^ m:=Int.pow_pos (by decide)
      have hWm:W * 2 ^ m≤4611686018427387904:=by
        refine Int.le_trans (Int.mul_le_mul_of_nonneg_left ?_ hp) hW
        have:=Nat.pow_le_pow_right (show 0<2 by decide) (show m≤n by omega)
        exact_mod_cast this
      have hWp:0≤W * 2 ^ m:=Int.mul_nonneg hp (Int.le_of_lt hpm)
      have h0:=h1 m hmn
      by_cases hn:NegD n (fwU n m (fwM n K m) n)
      · exact .inl ⟨hn,fun y hy=>hn.no ((pivot_sol hsm hmn h0 h2 hWm y).2 ((h4 y).2 hy))⟩
      · refine .inr ⟨fun u hu=>?_, ?_,pivot_cl hsm hmn h1 h2 hWm h3,fun y=>(pivot_sol hsm hmn h0 h2 hWm y).trans (h4 y)⟩
        · have g1:at1 (fwU n m (fwM n K m) n) u u≤at1 (fwM n K m) u u:=fwU_le hsm n (Nat.le_refl _) u u
          rw [h1 u hu] at g1
          have g2:¬at1 (fwU n m (fwM n K m) n) u u<0:=fun h=>hn ⟨u,hu,h⟩
          show at1 (fwU n m (fwM n K m) n) u u=0
          omega
        · have:=pivot_bd hsm hmn h0 h2 hWp hWm
          rw [show W * 2 ^ (m+1)=2 * (W * 2 ^ m) by rw [Int.pow_succ];rw [Int.mul_comm 2,Int.mul_assoc]]
          exact this
end Go.Sim
