/- How the program lets one applicant ask (plain). -/
import Derived.Test.YtadlbdekaehipaaDoorPc
set_option linter.all false
set_option linter.unusedVariables false
set_option linter.unusedSimpArgs false
set_option linter.unusedSectionVars false
namespace Go.Sim
open Go.Market
theorem wishL_lt {st:List Stl}{a:App}{j k:Nat}(hjk:j<k) (hk:k<(wishL st a).length):(wishL st a)[j].1<(wishL st a)[k].1:=by
  have hp:(wishL st a).Pairwise fun x y=>x.1<y.1:=by
    rw [wishL,List.pairwise_map]
    exact List.Pairwise.filter _ List.pairwise_lt_range
  exact List.pairwise_iff_getElem.1 hp j k (by omega) hk hjk
theorem wishL_at {n:Nat}{st:List Stl}{a:App}(hok:AppOk n a){k:Nat}(hk:k<(wishL st a).length):∃w:Nat,w<n∧(wishL st a)[k].2=(w:Int)∧canS st a (w:Int)=true∧a.wishes.idxOf (w:Int)=(wishL st a)[k].1:=by
  obtain ⟨i,hi,h1,h2⟩:=wishL_mem hk
  have hw:=hok.wish _ (List.getElem_mem hi)
  refine ⟨a.wishes[i].toNat,by omega,by rw [h2];simp only;omega, ?_, ?_⟩
  · rw [show ((a.wishes[i].toNat:Nat):Int)=a.wishes[i] by omega,canS,idxOf_nodup hok.nodup hi,h1];simp
  · rw [show ((a.wishes[i].toNat:Nat):Int)=a.wishes[i] by omega,idxOf_nodup hok.nodup hi,h2]
theorem wishL_all {st:List Stl}{a:App}{s:Int}(h:canS st a s=true):∃k,∃h' : k<(wishL st a).length,(wishL st a)[k].1=a.wishes.idxOf s:=by
  have h1:=canS_lt h
  simp only [canS,Bool.and_eq_true,decide_eq_true_eq] at h
  obtain ⟨h2,h3⟩:=wishL_get h1 h.2 rfl
  exact ⟨_,h2,by rw [h3]⟩
def vK (n0:Nat) (W:List (Nat×Int)) (k:Nat):Nat:=if k=0 then n0 else max n0 ((nth W (k-1)).1+1)
theorem vK_succ {n0:Nat}{W:List (Nat×Int)}{k:Nat}(hk:k<W.length):vK n0 W (k+1)=max n0 (W[k].1+1):=by
  rw [vK,if_neg (by omega),Nat.add_sub_cancel,nth_get hk]
def stopL (l : Lett) (h : List Int) (n0 a k : Nat) : Bool :=
  decide (vK n0 (wishL l.stalls (nth l.apps a)) k≤(nth (wishL l.stalls (nth l.apps a)) k).1) &&
    !(decide (0≤nth h (nth (wishL l.stalls (nth l.apps a)) k).2.toNat)&&decide (cmpL l (nth (wishL l.stalls (nth l.apps a)) k).2.toNat (nth h (nth (wishL l.stalls (nth l.apps a)) k).2.toNat).toNat a<0))
theorem set_self {l:List Int}{i:Nat}(h:i<l.length) (h0:0≤nth l i):l.set i (((nth l i).toNat:Nat):Int)=l:=by
  rw [nth_get h] at h0 ⊢
  rw [show ((l[i].toNat:Nat):Int)=l[i] by omega,List.set_getElem_self]
theorem vK_lt {l:Lett}{a n0 k:Nat}(hk:k<(wishL l.stalls (nth l.apps a)).length) (h:(wishL l.stalls (nth l.apps a))[k].1<vK n0 (wishL l.stalls (nth l.apps a)) k):vK n0 (wishL l.stalls (nth l.apps a)) (k+1)=vK n0 (wishL l.stalls (nth l.apps a)) k:=by
  rw [vK_succ hk]
  cases k with
  | zero=>simp only [vK,if_true] at h ⊢;omega
  | succ j =>
    rw [vK_succ (by omega)] at h ⊢
    have:=wishL_lt (st:=l.stalls) (a:=nth l.apps a) (j:=j) (k:=j+1) (by omega) hk
    omega
theorem vK_ge {l:Lett}{a n0 k:Nat}(hk:k<(wishL l.stalls (nth l.apps a)).length) (h:vK n0 (wishL l.stalls (nth l.apps a)) k≤(wishL l.stalls (nth l.apps a))[k].1):vK n0 (wishL l.stalls (nth l.apps a)) (k+1)=(wishL l.stalls (nth l.apps a))[k].1+1:=by
  rw [vK_succ hk]
  cases k with
  | zero=>simp only [vK,if_true] at h;omega
  | succ j =>
    rw [vK_succ (by omega)] at h
    omega
section
variable {l:Lett}(hv:ValidL l){h nx fr:List Int}{a:Nat}
include hv
theorem nth_app (ha:a<l.apps.length):AppOk l.stalls.length (nth l.apps a):=by rw [nth_get ha];exact hv.ap _ (List.getElem_mem ha)
theorem Asking.upto (k0:Asking l h nx fr) (ha:(a:Int)∈fr){k:Nat}(hk:k<(wishL l.stalls (nth l.apps a)).length){n0:Nat}(hn:(nth nx a).toNat=vK n0 (wishL l.stalls (nth l.apps a)) k):Asking l h (nx.set a ((wishL l.stalls (nth l.apps a))[k].1:Nat)) fr:=by
  obtain ⟨i,hi,_,h2⟩:=wishL_mem hk
  refine k0.raise ha (by rw [h2];simp only;omega) fun s hs hc hle=>?_
  obtain ⟨j,hj,e⟩:=wishL_all hc
  rw [←e] at hle ⊢
  rcases Nat.lt_trichotomy j k with q | q | q
  · exfalso
    rw [hn] at hle
    obtain ⟨k',rfl⟩:∃k',k=k' + 1:=⟨k-1,by omega⟩
    rw [vK_succ (by omega)] at hle
    by_cases hjk:j=k'
    · subst hjk;omega
    · have:=wishL_lt (st:=l.stalls) (a:=nth l.apps a) (j:=j) (k:=k') (by omega) (by omega)
      omega
  · subst q;exact Nat.le_refl _
  · exact Nat.le_of_lt (wishL_lt q hj)
theorem Asking.rounds (k0:Asking l h nx fr) (ha:(a:Int)∈fr):∀k,k≤(wishL l.stalls (nth l.apps a)).length→(∀j,j<k→stopL l h (nth nx a).toNat a j=false)→Asking l h (nx.set a (vK (nth nx a).toNat (wishL l.stalls (nth l.apps a)) k:Nat)) fr
  | 0,_,_=>by
    have hal:=(k0.free ha).1
    rw [show vK (nth nx a).toNat (wishL l.stalls (nth l.apps a)) 0=(nth nx a).toNat from rfl,set_self (by rw [k0.nl];exact hal) (k0.nr a hal).1]
    exact k0
  | k + 1, hk, hs => by
    have ih:=Asking.rounds k0 ha k (by omega) fun j hj=>hs j (by omega)
    have hal:=(k0.free ha).1
    have hanx:a<nx.length:=by rw [k0.nl];exact hal
    have hkl:k<(wishL l.stalls (nth l.apps a)).length:=by omega
    by_cases hlt:(wishL l.stalls (nth l.apps a))[k].1<vK (nth nx a).toNat (wishL l.stalls (nth l.apps a)) k
    · rw [vK_lt hkl hlt];exact ih
    · have hge:vK (nth nx a).toNat (wishL l.stalls (nth l.apps a)) k≤(wishL l.stalls (nth l.apps a))[k].1:=by omega
      rw [vK_ge hkl hge]
      obtain ⟨w,w1,w2,w3,w4⟩:=wishL_at (nth_app hv hal) hkl
      have hst:=hs k (by omega)
      rw [stopL,nth_get hkl,decide_eq_true hge,Bool.true_and,w2,Int.toNat_natCast] at hst
      simp only [Bool.not_eq_false',Bool.and_eq_true,decide_eq_true_eq] at hst
      obtain ⟨q1,q2⟩:=hst
      have hwl:w<h.length:=by rw [k0.hl];exact w1
      have hb:holdL h w=some (nth h w).toNat:=holdL_some.2 ⟨hwl,by rw [nth_get hwl] at q1 ⊢;omega⟩
      have hne:(nth h w).toNat≠a:=fun e=>(k0.free ha).2.2 w (by rw [hb,e])
      have hup:=ih.upto hv ha hkl (n0:=(nth nx a).toNat) (by rw [nth_set_same hanx];rfl)
      rw [List.set_set] at hup
      have hre:=hup.refuse hv ha w1 w3 (by rw [nth_set_same hanx,w4];rfl) hb (by rw [←cmpL_ahead hne];exact decide_eq_true q2)
      rw [List.set_set,w4] at hre
      exact hre
theorem Asking.accept {fr:List Int}(k0:Asking l h nx ((a:Int) :: fr)){k:Nat}(hk:k<(wishL l.stalls (nth l.apps a)).length) (hs:∀j,j<k→stopL l h (nth nx a).toNat a j=false) (hst:stopL l h (nth nx a).toNat a k=true) :
    Asking l (h.set (wishL l.stalls (nth l.apps a))[k].2.toNat (a:Int)) (nx.set a (((wishL l.stalls (nth l.apps a))[k].1+1:Nat):Int)) (fr++if 0≤nth h (wishL l.stalls (nth l.apps a))[k].2.toNat then [nth h (wishL l.stalls (nth l.apps a))[k].2.toNat] else []):=by
  have ham:(a:Int)∈(a:Int) :: fr:=by simp
  have hal:=(k0.free ham).1
  have hanx:a<nx.length:=by rw [k0.nl];exact hal
  have ih:=k0.rounds hv ham k (by omega) hs
  obtain ⟨w,w1,w2,w3,w4⟩:=wishL_at (nth_app hv hal) hk
  rw [stopL,nth_get hk,w2,Int.toNat_natCast,Bool.and_eq_true,decide_eq_true_eq] at hst
  obtain ⟨hge,q⟩:=hst
  have hwl:w<h.length:=by rw [k0.hl];exact w1
  have hup:=ih.upto hv ham hk (n0:=(nth nx a).toNat) (by rw [nth_set_same hanx];rfl)
  rw [List.set_set] at hup
  have hke:=hup.keep hv w1 w3 (by rw [nth_set_same hanx,w4];rfl) fun b hb=>by
    obtain ⟨_,e⟩:=holdL_some.1 hb
    have hne:b≠a:=fun e'=>(k0.free ham).2.2 w (by rw [hb,e'])
    have hnb:nth h w=(b:Int):=by rw [nth_get hwl,e]
    rw [hnb,Int.toNat_natCast] at q
    have hbl:=(k0.da.valid.ok w b hb).2.1
    have:aheadB l w b a=false:=by
      rw [←cmpL_ahead hne]
      cases hd:decide (cmpL l w b a<0) with
      | false=>rfl
      | true=>rw [hd] at q;simp at q
    rcases ahead_tot (s:=w) hal hbl hne.symm with h5 | h5
    · exact h5
    · rw [this] at h5;cases h5
  rw [List.set_set,w4] at hke
  rw [w2,Int.toNat_natCast]
  exact hke
theorem Asking.spent {fr:List Int}(k0:Asking l h nx ((a:Int) :: fr)) (hs:∀j,j<(wishL l.stalls (nth l.apps a)).length→stopL l h (nth nx a).toNat a j=false) :
    Asking l h (nx.set a (vK (nth nx a).toNat (wishL l.stalls (nth l.apps a)) (wishL l.stalls (nth l.apps a)).length:Nat)) fr:=by
  have ham:(a:Int)∈(a:Int) :: fr:=by simp
  have hal:=(k0.free ham).1
  have hanx:a<nx.length:=by rw [k0.nl];exact hal
  refine (k0.rounds hv ham _ (Nat.le_refl _) hs).done fun s hs' hc=>?_
  rw [nth_set_same hanx]
  obtain ⟨j,hj,e⟩:=wishL_all hc
  rw [←e]
  obtain ⟨n,hn⟩:∃n,(wishL l.stalls (nth l.apps a)).length=n+1:=⟨_,(Nat.sub_add_cancel (by omega:1≤(wishL l.stalls (nth l.apps a)).length)).symm⟩
  rw [hn,vK_succ (by omega)]
  have:(wishL l.stalls (nth l.apps a))[j].1≤(wishL l.stalls (nth l.apps a))[n].1:=by
    by_cases hjn:j=n
    · subst hjn;exact Nat.le_refl _
    · exact Nat.le_of_lt (wishL_lt (by omega) (by omega))
  show _<(max _ _:Nat)
  omega
end
def restOf (l:Lett) (nx:List Int):Nat:=((List.range l.apps.length).map fun a=>(nth l.apps a).wishes.length-(nth nx a).toNat).sum
theorem sum_le {f g:Nat→Nat}:∀ {L:List Nat},(∀x∈L,f x≤g x)→(L.map f).sum≤(L.map g).sum
  | [],_=>Nat.le_refl _
  | x :: L,h=>by
    have h1:=h x (by simp)
    have h2:=sum_le (L:=L) fun y hy=>h y (by simp [hy])
    simp only [List.map_cons,List.sum_cons];omega
theorem sum_lt {f g:Nat→Nat}{a:Nat}:∀ {L:List Nat},(∀x∈L,f x≤g x)→a∈L→f a<g a→(L.map f).sum<(L.map g).sum
  | [],_,h,_=>by simp at h
  | x :: L,h,ha,hlt=>by
    have h1:=h x (by simp)
    simp only [List.map_cons,List.sum_cons]
    rcases List.mem_cons.1 ha with rfl | ha
    · have h2:=sum_le (f:=f) (g:=g) (L:=L) fun y hy=>h y (by simp [hy]);omega
    · have h2:=sum_lt (L:=L) (fun y hy=>h y (by simp [hy])) ha hlt;omega
theorem restOf_le {l:Lett}{nx:List Int}{a v:Nat}(ha:a<nx.length) (hv:(nth nx a).toNat≤v):restOf l (nx.set a (v:Int))≤restOf l nx:=by
  refine sum_le fun x _=>?_
  by_cases hx:x=a
  · subst hx;rw [nth_set_same ha];simp only [Int.toNat_natCast];omega
  · rw [nth_set_other hx];exact Nat.le_refl _
theorem restOf_lt {l:Lett}{nx:List Int}{a v:Nat}(ha:a<nx.length) (hal:a<l.apps.length) (hv:(nth nx a).toNat<v) (hw:v≤(nth l.apps a).wishes.length):restOf l (nx.set a (v:Int))<restOf l nx:=by
  refine sum_lt (a:=a) (fun x _=>?_) (List.mem_range.2 hal) ?_
  · by_cases hx:x=a
    · subst hx;rw [nth_set_same ha];simp only [Int.toNat_natCast];omega
    · rw [nth_set_other hx];exact Nat.le_refl _
  · rw [nth_set_same ha];simp only [Int.toNat_natCast];omega
end Go.Sim
