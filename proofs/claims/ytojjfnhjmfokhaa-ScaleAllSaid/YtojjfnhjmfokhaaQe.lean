/- The reference's tables: the operations, as they are carried out. -/
import Derived.Test.YtojjfnhjmfokhaaQd
set_option linter.all false
set_option linter.unusedVariables false
set_option linter.unusedSimpArgs false
set_option linter.unusedSectionVars false
namespace Go.Sim
open Go.Proofs
abbrev KT:=List (List Int)
def rowK (r:List Int):List AV:=r.map I
theorem rowK_def (r:List Int):rowK r=r.map I:=rfl
abbrev at1 (K:KT) (u v:Nat):Int:=nth (nth K u) v
def SqK (n:Nat) (K:KT):Prop:=K.length=n∧∀r∈K,r.length=n
theorem SqK.row {n:Nat}{K:KT}(h:SqK n K){i:Nat}(hi:i<K.length):K[i].length=n:=h.2 _ (List.getElem_mem hi)
def setK (K:KT) (u v:Nat) (x:Int):KT:=K.set u ((nth K u).set v x)
theorem setK_get {K:KT}{u v:Nat}{x:Int}(hu:u<K.length):setK K u v x=K.set u (K[u].set v x):=by rw [setK,nth_get hu]
theorem setK_sq {n:Nat}{K:KT}(h:SqK n K){u v:Nat}{x:Int}(hu:u<n):SqK n (setK K u v x):=by
  have hl:u<K.length:=by rw [h.1];exact hu
  refine ⟨by rw [setK,List.length_set];exact h.1,fun r hr=>?_⟩
  rw [setK_get hl] at hr
  rcases List.mem_or_eq_of_mem_set hr with hr | rfl
  · exact h.2 r hr
  · rw [List.length_set];exact h.row hl
theorem at1_set {n:Nat}{K:KT}(h:SqK n K){u v:Nat}(hu:u<n) (hv:v<n){x:Int}{i k:Nat}:at1 (setK K u v x) i k=if i=u∧k=v then x else at1 K i k:=by
  have hl:u<K.length:=by rw [h.1];exact hu
  have hr:K[u].length=n:=h.row hl
  rw [setK_get hl]
  have e:∀(l:List (List Int)) j,nth l j=l.getD j []:=fun _ _=>rfl
  have e2:∀(l:List Int) j,nth l j=l.getD j 0:=fun _ _=>rfl
  show nth (nth (K.set u (K[u].set v x)) i) k=if i=u∧k=v then x else nth (nth K i) k
  by_cases h1:i=u
  · subst h1
    rw [nth_get (l:=K.set i (K[i].set v x)) (by rw [List.length_set];exact hl),nth_get hl,List.getElem_set_self,e2,e2,List.getD_eq_getElem?_getD,List.getD_eq_getElem?_getD]
    by_cases h2:k=v
    · subst h2
      rw [List.getElem?_set_self (by omega),if_pos ⟨rfl,rfl⟩];rfl
    · rw [List.getElem?_set_ne (Ne.symm h2),if_neg (fun q=>h2 q.2)]
  · rw [if_neg (fun q=>h1 q.1)]
    congr 1
    rw [e,e,List.getD_eq_getElem?_getD,List.getD_eq_getElem?_getD,List.getElem?_set_ne (Ne.symm h1)]
def rowF (n u:Nat):List Int:=(List.range n).map fun v=>if u=v then 0 else 1099511627776
def freeK (n:Nat):KT:=(List.range n).map (rowF n)
theorem rowF_nth {n u v:Nat}(hv:v<n):nth (rowF n u) v=if u=v then 0 else 1099511627776:=by
  rw [nth_get (by simp [rowF];exact hv)];simp [rowF]
theorem freeK_sq (n:Nat):SqK n (freeK n):=by
  refine ⟨by simp [freeK],fun r hr=>?_⟩
  obtain ⟨i,_,rfl⟩:=List.mem_map.1 hr;simp [rowF]
theorem freeK_at {n u v:Nat}(hu:u<n) (hv:v<n):at1 (freeK n) u v=if u=v then 0 else 1099511627776:=by
  show nth (nth (freeK n) u) v=_
  have h1:u<(freeK n).length:=by rw [(freeK_sq n).1];exact hu
  rw [nth_get h1]
  simp only [freeK,List.getElem_map,List.getElem_range]
  exact rowF_nth hv
structure Cst where
  u:Nat
  v:Nat
  x:Spn
def apartK (K:KT) (c:Cst):KT:=setK (setK K c.u c.v (min (at1 K c.u c.v) c.x.hi)) c.v c.u (min (at1 (setK K c.u c.v (min (at1 K c.u c.v) c.x.hi)) c.v c.u) (IntKind.i64.wrap (-c.x.lo)))
def CstOk (n:Nat) (c:Cst):Prop:=c.u<n∧c.v<n
theorem apartK_sq {n:Nat}{K:KT}(h:SqK n K){c:Cst}(hc:CstOk n c):SqK n (apartK K c):=setK_sq (setK_sq h hc.1) hc.2
def apAll (K:KT) (l:List Cst):KT:=l.foldl apartK K
theorem apAll_snoc (K:KT) (l:List Cst) (c:Cst):apAll K (l++[c])=apartK (apAll K l) c:=by simp [apAll]
theorem apAll_append (K:KT) (l m:List Cst):apAll K (l++m)=apAll (apAll K l) m:=by simp [apAll]
def baseC (b:Ben) (k:Nat):Cst:=if k<b.mas.length then ⟨1+k,0,(nth b.mas k).off⟩ else
  if (k-b.mas.length) % dd b=0 then ⟨0,k+1,(nth b.scl ((k-b.mas.length) / dd b)).fst⟩ else ⟨k,k+1,(nth b.scl ((k-b.mas.length) / dd b)).dri⟩
def weiC' (w:Wei):Cst:=⟨1+w.a.toNat,1+w.b.toNat,w.dif⟩
def triC' (b:Ben) (t:Tri):Cst:=⟨1+t.ms.toNat,dayN b t.sc.toNat t.day.toNat,⟨t.sh-(nth b.mas t.ms.toNat).nom,t.sh-(nth b.mas t.ms.toNat).nom⟩⟩
def resC (b:Ben) (i:Nat):Cst:=if i<b.wei.length then weiC' (nth b.wei i) else triC' b (nth b.tri (i-b.wei.length))
def baseK (b:Ben) (k:Nat):KT:=apAll (freeK (sizeB b)) ((List.range k).map (baseC b))
def useK (b:Ben) (use:List Bool) (k:Nat):KT:=apAll (baseK b (sizeB b-1)) (((List.range k).filter fun i=>nth use i).map (resC b))
theorem baseK_succ (b:Ben) (k:Nat):baseK b (k+1)=apartK (baseK b k) (baseC b k):=by
  rw [baseK,List.range_succ,List.map_append,List.map_singleton,apAll_snoc];rfl
theorem useK_succ (b:Ben) (use:List Bool) (k:Nat):useK b use (k+1)=if nth use k=true then apartK (useK b use k) (resC b k) else useK b use k:=by
  rw [useK,List.range_succ,List.filter_append,List.map_append]
  by_cases h:nth use k=true
  · rw [if_pos h,show ([k].filter fun i=>nth use i)=[k] by simp [List.filter,h],List.map_singleton,apAll_snoc];rfl
  · rw [if_neg h]
    have:nth use k=false:=by simpa using h
    rw [show ([k].filter fun i=>nth use i)=[] by simp [List.filter,this],List.map_nil,List.append_nil];rfl
def fwS (K:KT) (m u v:Nat):KT:=setK K u v (min (at1 K u v) (IntKind.i64.wrap (at1 K u m+at1 K m v)))
def fwV (m u:Nat) (K:KT):Nat→KT
  | 0=>K
  | v+1=>fwS (fwV m u K v) m u v
def fwU (n m:Nat) (K:KT):Nat→KT
  | 0=>K
  | u+1=>fwV m u (fwU n m K u) n
def fwM (n:Nat) (K:KT):Nat→KT
  | 0=>K
  | m+1=>fwU n m (fwM n K m) n
theorem fwV_sq {n m u:Nat}{K:KT}(h:SqK n K) (hu:u<n):∀v,SqK n (fwV m u K v)
  | 0=>h
  | v+1=>setK_sq (fwV_sq h hu v) hu
theorem fwU_sq {n m:Nat}{K:KT}(h:SqK n K):∀u,u≤n→SqK n (fwU n m K u)
  | 0,_=>h
  | u+1,hu=>fwV_sq (fwU_sq h u (by omega)) (by omega) n
theorem fwM_sq {n:Nat}{K:KT}(h:SqK n K):∀m,SqK n (fwM n K m)
  | 0=>h
  | m+1=>fwU_sq (fwM_sq h m) n (Nat.le_refl _)
def learnK (b:Ben) (use:List Bool):KT:=fwM (sizeB b) (useK b use (b.wei.length+b.tri.length)) (sizeB b)
def learnB (b:Ben) (use:List Bool):Bool:=decide (∀u,u<sizeB b→0≤at1 (learnK b use) u u)
theorem baseC_ok {b:Ben}(hv:ValidB b){k:Nat}(hk:k+1<sizeB b):CstOk (sizeB b) (baseC b k):=by
  have:=sizeB_le hv
  unfold baseC
  split
  · exact ⟨by show 1+k<_;omega,by show 0<_;omega⟩
  · split
    · exact ⟨by show 0<_;omega,by show k+1<_;omega⟩
    · exact ⟨by show k<_;omega,by show k+1<_;omega⟩
theorem resC_ok {b:Ben}(hv:ValidB b){i:Nat}(hi:i<b.wei.length+b.tri.length):CstOk (sizeB b) (resC b i):=by
  have hms:b.mas.length<sizeB b:=by unfold sizeB;omega
  unfold resC
  split
  · rename_i h
    rw [nth_get h]
    have:=hv.wei _ (List.getElem_mem h)
    exact ⟨by show 1+b.wei[i].a.toNat<_;omega,by show 1+b.wei[i].b.toNat<_;omega⟩
  · rename_i h
    have h2:i-b.wei.length<b.tri.length:=by omega
    rw [nth_get h2]
    have:=hv.tri _ (List.getElem_mem h2)
    have hd:=hv.days
    exact ⟨by show 1+(b.tri[i-b.wei.length]).ms.toNat<_;omega,dayN_lt (by omega) (by unfold dd;omega)⟩
theorem baseK_sq {b:Ben}(hv:ValidB b):∀k,k<sizeB b→SqK (sizeB b) (baseK b k)
  | 0,_=>freeK_sq _
  | k+1,hk=>by rw [baseK_succ];exact apartK_sq (baseK_sq hv k (by omega)) (baseC_ok hv hk)
theorem useK_sq {b:Ben}(hv:ValidB b) (use:List Bool):∀k,k≤b.wei.length+b.tri.length→SqK (sizeB b) (useK b use k)
  | 0,_=>baseK_sq hv _ (by have:=sizeB_le hv;omega)
  | k+1,hk=>by
    rw [useK_succ]
    have ih:=useK_sq hv use k (by omega)
    split
    · exact apartK_sq ih (resC_ok hv (by omega))
    · exact ih
end Go.Sim
