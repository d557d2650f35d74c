/- The reference and the program say the same of a bench. -/
import Derived.Test.YtojjfnhjmfokhaaQh
import Derived.Test.YtojjfnhjmfokhaaQd
set_option linter.unusedVariables false
set_option linter.unusedSimpArgs false
namespace Go.Sim
def HoldC (y:Nat→Int) (c:Cst):Prop:=c.x.lo≤y c.v-y c.u∧y c.v-y c.u≤c.x.hi
structure CstB (n:Nat) (c:Cst):Prop where
  u:c.u<n
  v:c.v<n
  ne:c.u≠c.v
  lo : -4000000≤c.x.lo∧c.x.lo≤4000000
  hi : -4000000≤c.x.hi∧c.x.hi≤4000000
theorem CstB.ok {n:Nat}{c:Cst}(h:CstB n c):CstOk n c:=⟨h.u,h.v⟩
theorem apart_at {n:Nat}{K:KT}(hs:SqK n K){c:Cst}(h:CstB n c) (i k:Nat):at1 (apartK K c) i k=if i=c.v∧k=c.u then min (at1 K c.v c.u) (-c.x.lo) else if i=c.u∧k=c.v then min (at1 K c.u c.v) c.x.hi else at1 K i k:=by
  have hl:=h.lo
  have hne:=h.ne
  have e:∀X,at1 (setK K c.u c.v X) c.v c.u=at1 K c.v c.u:=fun X=>by rw [at1_set hs h.u h.v,if_neg (fun q=>hne q.1.symm)]
  unfold apartK
  rw [e,at1_set (setK_sq hs h.u) h.v h.u,at1_set hs h.u h.v,wrap_i64 (by omega) (by omega)]
theorem apart_sol {n : Nat} {K : KT} (hs : SqK n K) {c : Cst} (h : CstB n c) (y : Nat → Int) : SolK n (apartK K c) y ↔ SolK n K y ∧ HoldC y c := by
  have hne:=h.ne
  constructor
  · intro g
    refine ⟨fun u v hu hv=>?_, ?_, ?_⟩
    · have:=g u v hu hv
      rw [apart_at hs h] at this
      split at this
      · rename_i e;obtain ⟨rfl,rfl⟩:=e;omega
      · split at this
        · rename_i e;obtain ⟨rfl,rfl⟩:=e;omega
        · exact this
    · have:=g c.v c.u h.v h.u
      rw [apart_at hs h,if_pos ⟨rfl,rfl⟩] at this
      omega
    · have:=g c.u c.v h.u h.v
      rw [apart_at hs h,if_neg (fun q=>hne q.1),if_pos ⟨rfl,rfl⟩] at this
      omega
  · rintro ⟨g,h1,h2⟩ u v hu hv
    have:=g u v hu hv
    rw [apart_at hs h]
    split
    · rename_i e;obtain ⟨rfl,rfl⟩:=e;omega
    · split
      · rename_i e;obtain ⟨rfl,rfl⟩:=e;omega
      · exact this
theorem apart_diag {n:Nat}{K:KT}(hs:SqK n K){c:Cst}(h:CstB n c) (hd:Diag0 n K):Diag0 n (apartK K c):=fun u hu=>by
  have hne:=h.ne
  rw [apart_at hs h,if_neg (by rintro ⟨h1,h2⟩;exact hne (h2.symm.trans h1)),if_neg (by rintro ⟨h1,h2⟩;exact hne (h1.symm.trans h2))]
  exact hd u hu
theorem apart_bd {n:Nat}{K:KT}(hs:SqK n K){c:Cst}(h:CstB n c) (hb:BdK n K 4000000):BdK n (apartK K c) 4000000:=fun u v hu hv=>by
  have hl:=h.lo
  have hh:=h.hi
  have h1:=hb u v hu hv
  have h2:=hb c.u c.v h.u h.v
  have h3:=hb c.v c.u h.v h.u
  rw [apart_at hs h]
  split
  · omega
  · split<;>omega
theorem apAll_main {n : Nat} : ∀ {l : List Cst} {K : KT}, SqK n K → (∀ c ∈ l, CstB n c) → Diag0 n K → BdK n K 4000000 → Diag0 n (apAll K l) ∧ BdK n (apAll K l) 4000000 ∧ ∀ y, SolK n (apAll K l) y ↔ SolK n K y ∧ ∀ c ∈ l, HoldC y c
  | [],K,hs,_,hd,hb=>⟨hd,hb,fun y=>⟨fun h=>⟨h,fun c hc=>by cases hc⟩,fun h=>h.1⟩⟩
  | c :: l, K, hs, hl, hd, hb => by
    have hc:=hl c (by simp)
    obtain ⟨g1,g2,g3⟩:=apAll_main (l:=l) (apartK_sq hs hc.ok) (fun x hx=>hl x (by simp [hx])) (apart_diag hs hc hd) (apart_bd hs hc hb)
    refine ⟨g1,g2,fun y=>(g3 y).trans ?_⟩
    rw [apart_sol hs hc]
    constructor
    · rintro ⟨⟨h1,h2⟩,h3⟩
      exact ⟨h1,fun x hx=>by
        rcases List.mem_cons.1 hx with rfl | hx
        · exact h2
        · exact h3 x hx⟩
    · rintro ⟨h1,h2⟩
      exact ⟨⟨h1,h2 c (by simp)⟩,fun x hx=>h2 x (by simp [hx])⟩
def useL (b:Ben) (use:List Bool):List Cst:=(List.range (sizeB b-1)).map (baseC b)++((List.range (b.wei.length+b.tri.length)).filter fun i=>nth use i).map (resC b)
theorem useK_all (b:Ben) (use:List Bool):useK b use (b.wei.length+b.tri.length)=apAll (freeK (sizeB b)) (useL b use):=by
  rw [useK,useL,apAll_append];rfl
theorem baseC_b {b : Ben} (hv : ValidB b) {k : Nat} (hk : k + 1 < sizeB b) : CstB (sizeB b) (baseC b k) := by
  have hok:=baseC_ok hv hk
  refine ⟨hok.1,hok.2, ?_, ?_, ?_⟩
  all_goals
    unfold baseC
    by_cases h1:k<b.mas.length
    · have hh:=hv.mas _ (List.getElem_mem h1)
      rw [if_pos h1,nth_get h1]
      first
        | (show 1+k≠0;omega)
        | (simp only;omega)
    · have hs:=scl_lt (b:=b) (k:=k) (by omega) hk
      have hh:=hv.scl _ (List.getElem_mem hs)
      rw [if_neg h1,nth_get hs]
      by_cases h2:(k-b.mas.length) % dd b=0
      · rw [if_pos h2]
        first
          | (show (0:Nat)≠k+1;omega)
          | (simp only;omega)
      · rw [if_neg h2]
        first
          | (show k≠k+1;omega)
          | (simp only;omega)
theorem resC_b {b:Ben}(hv:ValidB b){i:Nat}(hi:i<b.wei.length+b.tri.length):CstB (sizeB b) (resC b i):=by
  have hok:=resC_ok hv hi
  refine ⟨hok.1,hok.2, ?_, ?_, ?_⟩
  all_goals
    unfold resC
    by_cases h1:i<b.wei.length
    · have hh:=hv.wei _ (List.getElem_mem h1)
      rw [if_pos h1,nth_get h1]
      simp only [weiC']
      omega
    · have h2:i-b.wei.length<b.tri.length:=by omega
      have hh:=hv.tri _ (List.getElem_mem h2)
      have hm:(b.tri[i-b.wei.length]).ms.toNat<b.mas.length:=by omega
      have hn:=hv.mas _ (List.getElem_mem hm)
      rw [if_neg h1,nth_get h2]
      simp only [triC',dayN,nth_get hm]
      omega
theorem free_diag (n:Nat):Diag0 n (freeK n):=fun u hu=>by rw [freeK_at hu hu,if_pos rfl]
theorem free_bd (n:Nat):BdK n (freeK n) 4000000:=fun u v hu hv=>by rw [freeK_at hu hv];split<;>omega
theorem free_sol {n:Nat}{y:Nat→Int}(h:∀u v,u<n→v<n→y v-y u≤1099511627776):SolK n (freeK n) y:=fun u v hu hv=>by
  rw [freeK_at hu hv]
  split
  · rename_i e;subst e;omega
  · exact h u v hu hv
theorem useL_b {b:Ben}(hv:ValidB b) (use:List Bool):∀c∈useL b use,CstB (sizeB b) c:=fun c hc=>by
  unfold useL at hc
  have hz:=sizeB_le hv
  rcases List.mem_append.1 hc with h | h
  · obtain ⟨k,hk,rfl⟩:=List.mem_map.1 h
    exact baseC_b hv (by have:=List.mem_range.1 hk;omega)
  · obtain ⟨i,hi,rfl⟩:=List.mem_map.1 h
    exact resC_b hv (List.mem_range.1 (List.mem_filter.1 hi).1)
theorem learn_main {b:Ben}(hv:ValidB b) (use:List Bool):(learnB b use=false∧∀y,¬(SolK (sizeB b) (freeK (sizeB b)) y∧∀c∈useL b use,HoldC y c)) ∨
    (learnB b use=true∧Diag0 (sizeB b) (learnK b use)∧ClK (sizeB b) (learnK b use) (sizeB b)∧∀y,SolK (sizeB b) (learnK b use) y↔SolK (sizeB b) (freeK (sizeB b)) y∧∀c∈useL b use,HoldC y c):=by
  have hz:=sizeB_le hv
  obtain ⟨g1,g2,g3⟩:=apAll_main (freeK_sq (sizeB b)) (useL_b hv use) (free_diag _) (free_bd _)
  rw [←useK_all] at g1 g2 g3
  have hsq:=useK_sq hv use _ (Nat.le_refl _)
  have hW:(4000000:Int) * 2 ^ sizeB b≤4611686018427387904:=by
    have h33:(2:Nat) ^ sizeB b≤2 ^ 33:=Nat.pow_le_pow_right (by decide) (by omega)
    have h33' : ((2 ^ sizeB b:Nat):Int)≤((2 ^ 33:Nat):Int):=by exact_mod_cast h33
    have e:((2 ^ sizeB b:Nat):Int)=(2:Int) ^ sizeB b:=by simp
    rw [←e]
    have:((2 ^ 33:Nat):Int)=8589934592:=by decide
    omega
  rcases fw_main hsq g1 (by decide) g2 hW (sizeB b) (Nat.le_refl _) with ⟨⟨u,hu,h1⟩,h2⟩ | ⟨h1,_,h3,h4⟩
  · exact .inl ⟨decide_eq_false fun h=>absurd (h u hu) (by show ¬0≤at1 (fwM _ _ _) u u;omega),fun y hy=>h2 y ((g3 y).2 hy)⟩
  · exact .inr ⟨decide_eq_true fun u hu=>by have:=h1 u hu;show 0≤at1 (fwM _ _ _) u u;omega,h1,h3,fun y=>(h4 y).trans (g3 y)⟩
/-! the program's numbers are these, the other way round -/
theorem base_hold {b:Ben}(hv:ValidB b){k:Nat}(hk:k+1<sizeB b){x:Nat→Int}:HoldC (fun j=>-x j) (baseC b k)↔(difF b k).1≤x (k+1)-x (fromF' b k)∧x (k+1)-x (fromF' b k)≤(difF b k).2:=by
  unfold HoldC baseC difF fromF'
  by_cases h1:k<b.mas.length
  · simp only [if_pos h1]
    rw [show 1+k=k+1 by omega]
    omega
  · simp only [if_neg h1]
    by_cases h2:(k-b.mas.length) % dd b=0
    · simp only [if_pos h2];omega
    · simp only [if_neg h2];omega
theorem wei_hold {w:Wei}{x:Nat→Int}:HoldC (fun j=>-x j) (weiC' w)↔FctHolds x (weiF w):=by
  unfold HoldC FctHolds weiC' weiF
  simp only
  omega
theorem tri_hold {b:Ben}{t:Tri}{x:Nat→Int}:HoldC (fun j=>-x j) (triC' b t)↔FctHolds x (triF b t):=by
  unfold HoldC FctHolds triC' triF
  simp only
  omega
def allR (b:Ben):List Bool:=List.replicate (b.wei.length+b.tri.length) true
theorem allR_nth {b:Ben}{i:Nat}(hi:i<b.wei.length+b.tri.length):nth (allR b) i=true:=by
  rw [nth_get (by unfold allR;rw [List.length_replicate];exact hi)]
  simp [allR]
theorem fits_hold {b : Ben} (hv : ValidB b) {x : Nat → Int} : Fits b x ↔ ∀ c ∈ useL b (allR b), HoldC (fun j => -x j) c := by
  have hz:=sizeB_le hv
  constructor
  · rintro ⟨hB,hF⟩ c hc
    unfold useL at hc
    rcases List.mem_append.1 hc with h | h
    · obtain ⟨k,hk,rfl⟩:=List.mem_map.1 h
      have hk' : k+1<sizeB b:=by have:=List.mem_range.1 hk;omega
      exact (base_hold hv hk').2 (hB k hk')
    · obtain ⟨i,hi,rfl⟩:=List.mem_map.1 h
      have hil:=List.mem_range.1 (List.mem_filter.1 hi).1
      unfold resC
      split
      · rename_i h1
        rw [nth_get h1]
        exact wei_hold.2 (hF _ (List.mem_append_left _ (List.mem_map.2 ⟨_,List.getElem_mem h1,rfl⟩)))
      · rename_i h1
        have h2:i-b.wei.length<b.tri.length:=by omega
        rw [nth_get h2]
        exact tri_hold.2 (hF _ (List.mem_append_right _ (List.mem_map.2 ⟨_,List.getElem_mem h2,rfl⟩)))
  · intro h
    refine ⟨fun k hk=>(base_hold hv hk).1 (h _ (List.mem_append_left _ (List.mem_map.2 ⟨k,List.mem_range.2 (by omega),rfl⟩))),fun f hf=>?_⟩
    have hr:∀i,i<b.wei.length+b.tri.length→HoldC (fun j=>-x j) (resC b i):=fun i hi =>
      h _ (List.mem_append_right _ (List.mem_map.2 ⟨i,List.mem_filter.2 ⟨List.mem_range.2 hi,allR_nth hi⟩,rfl⟩))
    unfold resF at hf
    rcases List.mem_append.1 hf with g | g
    · obtain ⟨w,hw,rfl⟩:=List.mem_map.1 g
      obtain ⟨i,hi,rfl⟩:=List.getElem_of_mem hw
      have:=hr i (by omega)
      rw [resC,if_pos hi,nth_get hi] at this
      exact wei_hold.1 this
    · obtain ⟨t,ht,rfl⟩:=List.mem_map.1 g
      obtain ⟨i,hi,rfl⟩:=List.getElem_of_mem ht
      have:=hr (b.wei.length+i) (by omega)
      rw [resC,if_neg (by omega),show b.wei.length+i-b.wei.length=i by omega,nth_get hi] at this
      exact tri_hold.1 this
theorem fits_small {b:Ben}(hv:ValidB b){x:Nat→Int}(h:Fits b x){i k:Nat}(hi:i<sizeB b) (hk:k<sizeB b):x k-x i≤1000000:=by
  cases hu:knownT b with
  | none=>exact absurd ⟨x,h⟩ ((known_none hv).1 hu)
  | some u =>
    obtain ⟨g1,g2,g3⟩:=known_some hv hu
    have h1:=(g3 x).2 h i k hi hk (g2 i k hi hk)
    have h2:=g2 i k hi hk
    rcases g1.small hi hk with h3 | h3 <;> omega
theorem fits_free {b:Ben}(hv:ValidB b){x:Nat→Int}(h:Fits b x):SolK (sizeB b) (freeK (sizeB b)) fun j=>-x j:=
  free_sol fun u v hu hv'=>by
    have:=fits_small hv h hv' hu
    show -x v - -x u≤_
    omega
theorem cl_reach {n:Nat}{K:KT}(hc:ClK n K n){i:Nat}(hi:i<n):SolK n K fun j=>at1 K i j:=fun u v hu hv=>by
  have:=hc i v u hi hv hu
  show at1 K i v-at1 K i u≤_
  omega
theorem learn_fits {b:Ben}(hv:ValidB b){y:Nat→Int}(h:∀c∈useL b (allR b),HoldC y c):Fits b fun j=>-y j:=
  (fits_hold hv).2 fun c hc=>by simpa using h c hc
theorem known_learn {b:Ben}(hv:ValidB b):knownT b=none↔learnB b (allR b)=false:=by
  rw [known_none hv]
  have hz:=sizeB_le hv
  rcases learn_main hv (allR b) with ⟨h1,h2⟩ | ⟨h1,_,h3,h4⟩
  · exact ⟨fun _=>h1,fun _=>fun ⟨x,hx⟩=>h2 _ ⟨fits_free hv hx,(fits_hold hv).1 hx⟩⟩
  · constructor
    · intro h
      exact absurd ⟨_,learn_fits hv ((h4 _).1 (cl_reach h3 (show 0<sizeB b by omega))).2⟩ h
    · intro h
      rw [h1] at h;cases h
theorem known_tight {b:Ben}(hv:ValidB b){u:Tab}(hu:knownT b=some u):learnB b (allR b)=true∧∀i k,i<sizeB b→k<sizeB b→at1 (learnK b (allR b)) i k=hi2 u k i:=by
  have hl:learnB b (allR b)=true:=by
    cases h:learnB b (allR b) with
    | true=>rfl
    | false=>rw [(known_learn hv).2 h] at hu;cases hu
  rcases learn_main hv (allR b) with ⟨h1,_⟩ | ⟨_,h2,h3,h4⟩
  · rw [h1] at hl;cases hl
  obtain ⟨g1,g2,g3⟩:=known_some hv hu
  refine ⟨hl,fun i k hi hk=>Int.le_antisymm ?_ ?_⟩
  · have hy:=cl_reach h3 hi
    have hx:=(g3 _).2 (learn_fits hv ((h4 _).1 hy).2) k i hk hi (g2 k i hk hi)
    have:=h2 i hi
    have hx2 : -at1 (learnK b (allR b)) i i - -at1 (learnK b (allR b)) i k≤hi2 u k i:=hx
    omega
  · have hx:=g1.reach g2 hk
    have hf:=(g3 _).1 hx
    have hy:=(h4 _).2 ⟨fits_free hv hf,(fits_hold hv).1 hf⟩ i k hi hk
    have:=g1.diag k hk
    have hy2 : -hi2 u k k - -hi2 u k i≤at1 (learnK b (allR b)) i k:=hy
    omega
end Go.Sim
