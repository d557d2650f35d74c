/- Benches: all that may truly be, gone through. -/
import Derived.Test.YtojjfnhjmfokhaaQr
set_option linter.all false
set_option linter.unusedVariables false
set_option linter.unusedSimpArgs false
set_option linter.unusedSectionVars false
namespace Go.Sim
open Go.Proofs
def uptoF (f:Int→List Fac) (lo:Int):Nat→List Fac
  | 0=>[]
  | i+1=>uptoF f lo i++f (lo+(i:Int))
def widN (x:Spn):Nat:=(x.hi-x.lo+1).toNat
def facE (b:Ben) (s:Scl) (os:List Int):Nat→List Int→List Fac
  | 0,l=>if holdB b ⟨os,[l]⟩=true then [⟨os,[l]⟩] else []
  | k+1,l=>uptoF (fun n=>facE b s os k (l++[nth l (l.length-1)+n])) s.dri.lo (widN s.dri)
def facD (b:Ben) (s:Scl) (os:List Int):List Fac:=uptoF (fun n=>facE b s os b.days.toNat [n]) s.fst.lo (widN s.fst)
def facO (b:Ben) (s:Scl):Nat→List Int→List Fac
  | 0,os=>facD b s os
  | k+1,os=>uptoF (fun n=>facO b s k (os++[n])) (nth b.mas os.length).off.lo (widN (nth b.mas os.length).off)
def allF (b:Ben) (s:Scl):List Fac:=facO b s b.mas.length []
theorem uptoF_mem {f:Int→List Fac}{lo:Int}{x:Fac}:∀ {i:Nat},x∈uptoF f lo i↔∃j:Nat,j<i∧x∈f (lo+(j:Int))
  | 0=>⟨fun h=>(by cases h),fun ⟨j,h,_⟩=>(by omega)⟩
  | i + 1 => by
    rw [uptoF,List.mem_append,uptoF_mem]
    constructor
    · rintro (⟨j,h1,h2⟩ | h)
      · exact ⟨j,by omega,h2⟩
      · exact ⟨i,by omega,h⟩
    · rintro ⟨j,h1,h2⟩
      by_cases e:j=i
      · subst e;exact .inr h2
      · exact .inl ⟨j,by omega,h2⟩
theorem wid_mem {f:Int→List Fac}{s:Spn}{x:Fac}:x∈uptoF f s.lo (widN s)↔∃n,(s.lo≤n∧n≤s.hi)∧x∈f n:=by
  rw [uptoF_mem]
  unfold widN
  constructor
  · rintro ⟨j,h1,h2⟩;exact ⟨_,by omega,h2⟩
  · rintro ⟨n,h1,h2⟩
    refine ⟨(n-s.lo).toNat,by omega, ?_⟩
    rwa [show s.lo+(((n-s.lo).toNat:Nat):Int)=n by omega]
theorem uptoF_len {f:Int→List Fac}{lo:Int}{m:Nat}(h:∀n,(f n).length≤m):∀i,(uptoF f lo i).length≤i * m
  | 0=>by simp [uptoF]
  | i+1=>by
    rw [uptoF,List.length_append,Nat.succ_mul]
    have:=uptoF_len (lo:=lo) h i
    have:=h (lo+(i:Int))
    omega
theorem uptoF_mono {f:Int→List Fac}{lo:Int}{i:Nat}:∀ {j:Nat},i≤j→(uptoF f lo i).length≤(uptoF f lo j).length
  | 0,h=>by rw [show i=0 by omega];exact Nat.le_refl _
  | j + 1, h => by
    by_cases e:i=j+1
    · rw [e];exact Nat.le_refl _
    · rw [uptoF,List.length_append]
      have:=uptoF_mono (f:=f) (lo:=lo) (i:=i) (j:=j) (by omega)
      omega
theorem facE_len {b:Ben}{s:Scl}{os:List Int}{w:Nat}(hw:widN s.dri≤w) (h0:1≤w):∀k l,(facE b s os k l).length≤w ^ k
  | 0,l=>by rw [facE];split<;>simp
  | k+1,l=>by
    rw [facE,Nat.pow_succ,Nat.mul_comm]
    refine Nat.le_trans (uptoF_len (fun n=>facE_len hw h0 k _) _) (Nat.mul_le_mul_right _ hw)
theorem facO_len {b:Ben}{s:Scl}{m w:Nat}(hd:∀os,(facD b s os).length≤m) (hw:∀i,widN (nth b.mas i).off≤w):∀k os,(facO b s k os).length≤w ^ k * m
  | 0,os=>by rw [facO];simpa using hd os
  | k+1,os=>by
    rw [facO,Nat.pow_succ,Nat.mul_comm (w ^ k) w,Nat.mul_assoc]
    exact Nat.le_trans (uptoF_len (fun n=>facO_len hd hw k _) _) (Nat.mul_le_mul_right _ (hw _))
/-! what is gone through -/
def Tail (s:Scl) (k:Nat) (l m:List Int):Prop:=m.length=l.length+k∧(∀i,i<l.length→nth m i=nth l i)∧∀i,l.length≤i→i<m.length→s.dri.lo≤nth m i-nth m (i-1)∧nth m i-nth m (i-1)≤s.dri.hi
theorem ext_nth {l m:List Int}(h1:l.length=m.length) (h2:∀i,i<l.length→nth l i=nth m i):l=m:=
  List.ext_getElem h1 fun i a c=>by have:=h2 i a;rwa [nth_get a,nth_get c] at this
theorem facE_mem {b : Ben} {s : Scl} {os : List Int} {f : Fac} : ∀ {k : Nat} {l : List Int}, 1 ≤ l.length → (f ∈ facE b s os k l ↔ ∃ m, f = ⟨os, [m]⟩ ∧ Tail s k l m ∧ holdB b f = true)
  | 0,l,hl=>by
    rw [facE]
    constructor
    · intro h
      split at h
      · rename_i hh
        rw [List.mem_singleton] at h
        subst h
        exact ⟨l,rfl,⟨rfl,fun i _=>rfl,fun i h1 h2=>by omega⟩,hh⟩
      · cases h
    · rintro ⟨m,e,⟨h1,h2,h3⟩,hh⟩
      have:m=l:=ext_nth (by omega) fun i hi=>h2 i (by omega)
      subst this
      subst e
      rw [if_pos hh];simp
  | k + 1, l, hl => by
    rw [facE,wid_mem]
    constructor
    · rintro ⟨n,h1,h2⟩
      obtain ⟨m,e,⟨t1,t2,t3⟩,hh⟩:=(facE_mem (by rw [len_snoc];omega)).1 h2
      rw [len_snoc] at t1 t2 t3
      refine ⟨m,e,⟨by omega,fun i hi=>?_,fun i a c=>?_⟩,hh⟩
      · rw [t2 i (by omega),nth_snoc_lt hi]
      · by_cases q:i=l.length
        · subst q
          rw [t2 l.length (by omega),t2 (l.length-1) (by omega),nth_snoc_eq,nth_snoc_lt (by omega)]
          omega
        · exact t3 i (by omega) c
    · rintro ⟨m,e,⟨t1,t2,t3⟩,hh⟩
      refine ⟨nth m l.length-nth m (l.length-1),t3 l.length (Nat.le_refl _) (by omega),(facE_mem (by rw [len_snoc];omega)).2 ⟨m,e,⟨by rw [len_snoc];omega,fun i hi=>?_,fun i a c=>?_⟩,hh⟩⟩
      · rw [len_snoc] at hi
        by_cases q:i=l.length
        · subst q
          rw [nth_snoc_eq,t2 (l.length-1) (by omega)];omega
        · rw [nth_snoc_lt (by omega)];exact t2 i (by omega)
      · rw [len_snoc] at a
        exact t3 i (by omega) c
theorem tail_row {s:Scl}{k:Nat}{n:Int}{m:List Int}:(s.fst.lo≤n∧n≤s.fst.hi)∧Tail s k [n] m→RowF s k m:=by
  rintro ⟨hn,h1,h2,h3⟩
  have e0:nth m 0=n:=h2 0 (by simp)
  refine ⟨by simp at h1;omega,by rw [e0];exact hn,fun d hd=>?_⟩
  have:=h3 (d+1) (by simp) (by simp at h1;omega)
  rwa [show d+1-1=d by omega] at this
theorem row_tail {s:Scl}{k:Nat}{m:List Int}(h:RowF s k m):(s.fst.lo≤nth m 0∧nth m 0≤s.fst.hi)∧Tail s k [nth m 0] m:=by
  have hl:=h.len
  refine ⟨h.fst,by simp;omega,fun i hi=>?_,fun i a c=>?_⟩
  · have:i=0:=by simp at hi;omega
    subst this;rfl
  · have a1:1≤i:=by simpa using a
    have:=h.dri (i-1) (by omega)
    rwa [show i-1+1=i by omega] at this
theorem facD_mem {b:Ben}{s:Scl}{os:List Int}{f:Fac}:f∈facD b s os↔∃m,f=⟨os,[m]⟩∧RowF s b.days.toNat m∧holdB b f=true:=by
  unfold facD
  rw [wid_mem]
  constructor
  · rintro ⟨n,h1,h2⟩
    obtain ⟨m,e,t,hh⟩:=(facE_mem (by simp)).1 h2
    exact ⟨m,e,tail_row ⟨h1,t⟩,hh⟩
  · rintro ⟨m,e,hr,hh⟩
    obtain ⟨h1,t⟩:=row_tail hr
    exact ⟨_,h1,(facE_mem (by simp)).2 ⟨m,e,t,hh⟩⟩
theorem facO_mem {b : Ben} {s : Scl} {f : Fac} : ∀ {k : Nat} {os : List Int}, f ∈ facO b s k os ↔ ∃ qs m, f = ⟨os ++ qs, [m]⟩ ∧ qs.length = k ∧ (∀ i, i < k → (nth b.mas (os.length + i)).off.lo ≤ nth qs i ∧ nth qs i ≤ (nth b.mas (os.length + i)).off.hi) ∧ RowF s b.days.toNat m ∧ holdB b f = true
  | 0,os=>by
    rw [facO,facD_mem]
    constructor
    · rintro ⟨m,e,hr,hh⟩
      exact ⟨[],m,by rw [List.append_nil];exact e,rfl,fun i hi=>by omega,hr,hh⟩
    · rintro ⟨qs,m,e,hl,_,hr,hh⟩
      rw [List.length_eq_zero_iff.1 hl,List.append_nil] at e
      exact ⟨m,e,hr,hh⟩
  | k + 1, os => by
    rw [facO,wid_mem]
    constructor
    · rintro ⟨n,h1,h2⟩
      obtain ⟨qs,m,e,hl,hq,hr,hh⟩:=facO_mem.1 h2
      rw [len_snoc] at hq
      refine ⟨n :: qs,m,by rw [e];simp,by simp [hl],fun i hi=>?_,hr,hh⟩
      cases i with
      | zero=>exact h1
      | succ i =>
        have:=hq i (by omega)
        rw [show os.length+1+i=os.length+(i+1) by omega] at this
        exact this
    · rintro ⟨qs,m,e,hl,hq,hr,hh⟩
      cases qs with
      | nil=>simp at hl
      | cons n qs =>
        refine ⟨n,hq 0 (by omega),facO_mem.2 ⟨qs,m,by rw [e];simp,by simpa using hl,fun i hi=>?_,hr,hh⟩⟩
        have:=hq (i+1) (by omega)
        rw [show os.length+(i+1)=(os++[n]).length+i by rw [len_snoc];omega] at this
        exact this
structure OneS (b:Ben) (s:Scl):Prop where
  v:ValidB b
  scl:b.scl=[s]
  ok:SclS s
  mas:∀m∈b.mas,(1≤m.nom∧m.nom≤1000)∧-20≤m.off.lo∧m.off.lo≤m.off.hi∧m.off.hi≤20
theorem allF_mem {b : Ben} {s : Scl} (hb : OneS b s) {f : Fac} : f ∈ allF b s ↔ FacOk b f ∧ holdB b f = true := by
  unfold allF
  rw [facO_mem]
  constructor
  · rintro ⟨qs,m,e,hl,hq,hr,hh⟩
    refine ⟨?_,hh⟩
    subst e
    rw [List.nil_append]
    refine ⟨⟨hl,fun i hi=>?_⟩, ?_⟩
    · have:=hq i hi
      rw [List.length_nil,Nat.zero_add] at this
      have hm:=hb.mas _ (List.getElem_mem hi)
      rw [nth_get hi] at this ⊢
      exact ⟨hm.1,hm.2,this⟩
    · rw [hb.scl]
      refine ⟨rfl,fun i hi=>?_⟩
      have:i=0:=by simpa using hi
      subst this
      exact ⟨hb.ok,hr⟩
  · rintro ⟨⟨h1,h2⟩,hh⟩
    rw [hb.scl] at h2
    obtain ⟨m,e⟩:∃m,f.errs=[m]:=by
      have:=h2.1
      cases hf:f.errs with
      | nil=>rw [hf] at this;simp at this
      | cons m r =>
        rw [hf] at this
        have:r=[]:=List.length_eq_zero_iff.1 (by simpa using this)
        exact ⟨m,by rw [this]⟩
    refine ⟨f.offs,m, ?_,h1.1,fun i hi=>?_, ?_,hh⟩
    · rw [List.nil_append,←e]
    · rw [List.length_nil,Nat.zero_add]
      exact (h1.2 i hi).at_
    · have:=(h2.2 0 (by simp)).row
      rw [e] at this
      exact this
/-! what fits is a fact -/
def facX (b:Ben) (x:Nat→Int):Fac:=⟨(List.range b.mas.length).map fun i=>x (1+i)-x 0,[(List.range (dd b)).map fun d=>x 0-x (dayN b 0 d)]⟩
theorem nth_map_range {f:Nat→Int}{n i:Nat}(h:i<n):nth ((List.range n).map f) i=f i:=by
  rw [nth_get (by simpa using h)];simp
theorem facX_ok {b:Ben}{s:Scl}(hb:OneS b s){x:Nat→Int}(hx:Fits b x):FacOk b (facX b x)∧holdB b (facX b x)=true:=by
  obtain ⟨h1,h2,h3⟩:=self_fits.1 hx
  have hd:=hb.v.days
  have hdd:dd b=b.days.toNat+1:=rfl
  have hs1:b.scl.length=1:=by rw [hb.scl];rfl
  have hz:sizeB b=1+b.mas.length+dd b:=by unfold sizeB;rw [hs1];omega
  have hs0:nth b.scl 0=s:=by rw [hb.scl];rfl
  have eO:∀i,i<b.mas.length→nth (facX b x).offs i=x (1+i)-x 0:=fun i hi=>nth_map_range hi
  have eE:∀d,d<dd b→nth (nth (facX b x).errs 0) d=x 0-x (dayN b 0 d):=fun d hd=>nth_map_range hd
  have dN:∀d,dayN b 0 d=1+b.mas.length+d:=fun d=>by unfold dayN;omega
  refine ⟨⟨⟨by simp [facX],fun i hi=>?_⟩,⟨by rw [hs1];rfl,fun i hi=>?_⟩⟩, ?_⟩
  · have hm:=hb.mas _ (List.getElem_mem hi)
    have hB:=h1 i (by rw [hz];omega)
    have e1:fromF' b i=0:=by unfold fromF';rw [if_pos hi]
    have e2:difF b i=((nth b.mas i).off.lo,(nth b.mas i).off.hi):=by unfold difF;rw [if_pos hi]
    rw [e1,e2,show i+1=1+i by omega] at hB
    rw [eO i hi]
    rw [nth_get hi] at hB ⊢
    exact ⟨hm.1,hm.2,hB⟩
  · have:i=0:=by omega
    subst this
    rw [hs0]
    refine ⟨hb.ok,by simp [facX,nth,dd], ?_,fun d hd'=>?_⟩
    · have hB:=h1 b.mas.length (by rw [hz];omega)
      have e0:(b.mas.length-b.mas.length) % dd b=0:=by rw [Nat.sub_self,Nat.zero_mod]
      have e1:fromF' b b.mas.length=0:=by unfold fromF';rw [if_neg (by omega),if_pos e0]
      have e2:difF b b.mas.length=(-s.fst.hi, -s.fst.lo):=by unfold difF;rw [if_neg (by omega),if_pos e0,show (b.mas.length-b.mas.length) / dd b=0 by rw [Nat.sub_self,Nat.zero_div],hs0]
      rw [e1,e2] at hB
      rw [eE 0 (dd_pos b),dN,show 1+b.mas.length+0=b.mas.length+1 by omega]
      dsimp only at hB
      omega
    · have hB:=h1 (b.mas.length+(d+1)) (by rw [hz];omega)
      have q1:b.mas.length+(d+1)-b.mas.length=d+1:=by omega
      have e0:(b.mas.length+(d+1)-b.mas.length) % dd b=d+1:=by rw [q1];exact Nat.mod_eq_of_lt (by omega)
      have e3:(b.mas.length+(d+1)-b.mas.length) / dd b=0:=by rw [q1];exact Nat.div_eq_of_lt (by omega)
      have e1:fromF' b (b.mas.length+(d+1))=b.mas.length+(d+1):=by unfold fromF';rw [if_neg (by omega),e0,if_neg (by omega)]
      have e2:difF b (b.mas.length+(d+1))=(-s.dri.hi, -s.dri.lo):=by unfold difF;rw [if_neg (by omega),e0,if_neg (by omega),e3,hs0]
      rw [e1,e2] at hB
      rw [eE (d+1) (by omega),eE d (by omega),dN,dN,show 1+b.mas.length+(d+1)=b.mas.length+(d+1)+1 by omega,show 1+b.mas.length+d=b.mas.length+(d+1) by omega]
      dsimp only at hB
      omega
  · unfold holdB
    rw [Bool.and_eq_true,List.all_eq_true,List.all_eq_true]
    refine ⟨fun w hw=>?_,fun t ht=>?_⟩
    · have k:=hb.v.wei w hw
      have g:w.dif.lo≤x (1+w.a.toNat)-x (1+w.b.toNat)∧x (1+w.a.toNat)-x (1+w.b.toNat)≤w.dif.hi:=h2 w hw
      unfold weiB
      rw [decide_eq_true_eq,eO _ (by omega),eO _ (by omega)]
      omega
    · have k:=hb.v.tri t ht
      have g:t.sh-(nth b.mas t.ms.toNat).nom≤x (1+t.ms.toNat)-x (dayN b t.sc.toNat t.day.toNat)∧x (1+t.ms.toNat)-x (dayN b t.sc.toNat t.day.toNat)≤t.sh-(nth b.mas t.ms.toNat).nom:=h3 t ht
      have e0:t.sc.toNat=0:=by omega
      unfold triB
      rw [decide_eq_true_eq,e0,eO _ (by omega),eE _ (by omega)]
      rw [e0] at g
      omega
def spnN (v:Nat→Int):Nat→Spn
  | 0=>⟨v 0,v 0⟩
  | k+1=>⟨min (spnN v k).lo (v k),max (spnN v k).hi (v k)⟩
theorem spnN_in {v:Nat→Int}{a c:Int}{n:Nat}(h0:a≤v 0∧v 0≤c) (h:∀k,k<n→a≤v k∧v k≤c):∀k,k≤n→a≤(spnN v k).lo∧(spnN v k).hi≤c
  | 0,_=>h0
  | k+1,hk=>by
    have h1:=spnN_in h0 h k (by omega)
    have h2:=h k (by omega)
    show a≤min _ _∧max _ _≤c
    omega
theorem spnN_out {v:Nat→Int}{j:Nat}:∀ {k:Nat},j<k→(spnN v k).lo≤v j∧v j≤(spnN v k).hi
  | 0,h=>by omega
  | k + 1, h => by
    show min _ _≤v j∧v j≤max _ _
    by_cases e:j=k
    · subst e;omega
    · have:=spnN_out (v:=v) (j:=j) (k:=k) (by omega)
      omega
theorem spnN_eq {v:Nat→Int}{x:Spn}{n:Nat}(hn:0<n) (h:∀k,k<n→x.lo≤v k∧v k≤x.hi) (h1:∃k,k<n∧v k=x.lo) (h2:∃k,k<n∧v k=x.hi):spnN v n=x:=by
  obtain ⟨k1,a1,a2⟩:=h1
  obtain ⟨k2,b1,b2⟩:=h2
  have g:=spnN_in (h 0 hn) h n (Nat.le_refl _)
  have g1:=spnN_out (v:=v) a1
  have g2:=spnN_out (v:=v) b1
  have e1:(spnN v n).lo=x.lo:=by omega
  have e2:(spnN v n).hi=x.hi:=by omega
  cases hs:spnN v n
  cases x
  rw [hs] at e1 e2
  simp only at e1 e2
  rw [e1,e2]
theorem allF_nil {b:Ben}{s:Scl}(hb:OneS b s) (h:allF b s=[]):offsE b=9∧errsE b 0=9:=by
  have hu:knownT b=none:=(known_none hb.v).2 fun ⟨x,hx⟩=>by
    have:=(allF_mem hb).2 (facX_ok hb hx)
    rw [h] at this;cases this
  exact ⟨(known_no hb.v hu).1,(err_no hb.v hu (s:=0) (by rw [hb.scl];simp)).1⟩
theorem allF_some {b:Ben}{s:Scl}(hb:OneS b s) (h:¬allF b s=[]):(offsE b=0∧(offsL b).length=b.mas.length∧errsE b 0=0∧(errsL b 0).length=dd b) ∧
    (∀i,(hi:i<(offsL b).length)→spnN (fun k=>nth ((allF b s)[k]?.getD ⟨[],[]⟩).offs i) (allF b s).length=(offsL b)[i]) ∧
    ∀d,(hd:d<(errsL b 0).length)→spnN (fun k=>nth (nth ((allF b s)[k]?.getD ⟨[],[]⟩).errs 0) d) (allF b s).length=(errsL b 0)[d]:=by
  have hs0:0<b.scl.length:=by rw [hb.scl];simp
  obtain ⟨f0,hf0⟩:=List.exists_mem_of_ne_nil _ h
  obtain ⟨k1,k2⟩:=(allF_mem hb).1 hf0
  obtain ⟨u,hu,_⟩:=true_at hb.v (fac_fits hb.v k1 k2)
  obtain ⟨g1,g2,g3⟩:=known_some hb.v hu
  have z0:0<sizeB b:=by have:=sizeB_le hb.v;omega
  have hy:=known_yes hb.v hu
  have he:=err_yes hb.v hu hs0
  have hn:0<(allF b s).length:=List.length_pos_iff.2 h
  have hk:∀k,(hk:k<(allF b s).length)→(allF b s)[k]?.getD ⟨[],[]⟩=(allF b s)[k]:=fun k hk=>by rw [List.getElem?_eq_getElem hk];rfl
  have hin:∀k,(hk:k<(allF b s).length)→FacOk b (allF b s)[k]∧holdB b (allF b s)[k]=true:=fun k hk=>(allF_mem hb).1 (List.getElem_mem hk)
  have get:∀ {i:Nat},i<sizeB b→∃k,∃hk:k<(allF b s).length,(allF b s)[k]=facX b (fun j=>hi2 u i j):=fun {i} hi=>by
    have:=(allF_mem hb).2 (facX_ok hb ((g3 _).1 (g1.reach g2 hi)))
    obtain ⟨k,a,c⟩:=List.getElem_of_mem this
    exact ⟨k,a,c⟩
  refine ⟨⟨hy.1,by rw [hy.2];simp,he.1,by rw [show errsL b 0=_ from he.2];simp⟩,fun i hi=>?_,fun d hd=>?_⟩
  · have him:i<b.mas.length:=by rw [hy.2] at hi;simpa using hi
    have hiz:1+i<sizeB b:=by unfold sizeB;omega
    have e1:(offsL b)[i]=⟨-(hi2 u (1+i) 0),hi2 u 0 (1+i)⟩:=by simp [hy.2]
    have d0:=g1.diag 0 z0
    have d1:=g1.diag (1+i) hiz
    refine spnN_eq hn (fun k hk'=>?_) ?_ ?_
    · obtain ⟨q1,q2⟩:=hin k hk'
      have:=((true_all hb.v q1 q2).2.1.2 i hi (by have:=q1.offs.1;omega) him).1
      try dsimp only
      rw [hk k hk',nth_get (by have:=q1.offs.1;omega)]
      exact this
    · obtain ⟨k,a,c⟩:=get hiz
      refine ⟨k,a, ?_⟩
      try dsimp only
      rw [hk k a,c,e1]
      show nth ((List.range _).map _) i=_
      rw [nth_map_range him]
      dsimp only
      omega
    · obtain ⟨k,a,c⟩:=get z0
      refine ⟨k,a, ?_⟩
      try dsimp only
      rw [hk k a,c,e1]
      show nth ((List.range _).map _) i=_
      rw [nth_map_range him]
      dsimp only
      omega
  · have hdd:d<dd b:=by rw [show errsL b 0=_ from he.2] at hd;simpa using hd
    have hdz:dayN b 0 d<sizeB b:=dayN_lt hs0 hdd
    have e1:(errsL b 0)[d]=⟨-(hi2 u 0 (dayN b 0 d)),hi2 u (dayN b 0 d) 0⟩:=by simp [show errsL b 0=_ from he.2]
    have d0:=g1.diag 0 z0
    have d1:=g1.diag (dayN b 0 d) hdz
    refine spnN_eq hn (fun k hk'=>?_) ?_ ?_
    · obtain ⟨q1,q2⟩:=hin k hk'
      have:=((true_all hb.v q1 q2).2.2 0 hs0).1.2 d hd
      try dsimp only
      rw [hk k hk']
      exact this
    · obtain ⟨k,a,c⟩:=get z0
      refine ⟨k,a, ?_⟩
      try dsimp only
      rw [hk k a,c,e1]
      show nth ((List.range _).map _) d=_
      rw [nth_map_range hdd]
      dsimp only
      omega
    · obtain ⟨k,a,c⟩:=get hdz
      refine ⟨k,a, ?_⟩
      try dsimp only
      rw [hk k a,c,e1]
      show nth ((List.range _).map _) d=_
      rw [nth_map_range hdd]
      dsimp only
      omega
end Go.Sim
