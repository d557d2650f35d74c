/- Benches: which results contradict each other; both find the same ones. -/
import Derived.Test.YtojjfnhjmfokhaaQf
import Derived.Test.YtojjfnhjmfokhaaLl
set_option linter.all false
set_option linter.unusedVariables false
set_option linter.unusedSimpArgs false
set_option linter.unusedSectionVars false
namespace Go.Sim
open Go.Proofs
abbrev resN (b:Ben):Nat:=b.wei.length+b.tri.length
theorem nth_setq {l:List Bool}{i k:Nat}{x:Bool}(hi:i<l.length):nth (l.set i x) k=if k=i then x else nth l k:=by
  unfold nth
  rw [List.getD_eq_getElem?_getD,List.getD_eq_getElem?_getD,List.getElem?_set]
  by_cases h:i=k
  · subst h;rw [if_pos rfl,if_pos hi,if_pos rfl];rfl
  · rw [if_neg h,if_neg (fun n=>h n.symm)]
def BadL (b:Ben) (l:List Nat):Prop:=¬ ∃x,Base b x∧∀i∈l,FctHolds x (nth (resF b) i)
theorem res_hold {b:Ben}{i:Nat}(hi:i<resN b){x:Nat→Int}:HoldC (fun j=>-x j) (resC b i)↔FctHolds x (nth (resF b) i):=by
  unfold resC
  by_cases h1:i<b.wei.length
  · rw [if_pos h1,nth_get h1,wei_hold,resF_w h1]
  · have h2:i-b.wei.length<b.tri.length:=by have:resN b=b.wei.length+b.tri.length:=rfl;omega
    have e:=resF_t (b:=b) h2
    rw [show b.wei.length+(i-b.wei.length)=i by omega] at e
    rw [if_neg h1,nth_get h2,tri_hold,e]
theorem useL_hold {b:Ben}(hv:ValidB b) (use:List Bool){x:Nat→Int}:(∀c∈useL b use,HoldC (fun j=>-x j) c)↔Base b x∧∀i,i<resN b→nth use i=true→FctHolds x (nth (resF b) i):=by
  have hz:=sizeB_le hv
  constructor
  · intro h
    refine ⟨fun k hk=>(base_hold hv hk).1 (h _ (List.mem_append_left _ (List.mem_map.2 ⟨k,List.mem_range.2 (by omega),rfl⟩))),fun i hi hu=>(res_hold hi).1 ?_⟩
    exact h _ (List.mem_append_right _ (List.mem_map.2 ⟨i,List.mem_filter.2 ⟨List.mem_range.2 hi,hu⟩,rfl⟩))
  · rintro ⟨hB,hF⟩ c hc
    unfold useL at hc
    rcases List.mem_append.1 hc with h | h
    · obtain ⟨k,hk,rfl⟩:=List.mem_map.1 h
      have hk' : k+1<sizeB b:=by have:=List.mem_range.1 hk;omega
      exact (base_hold hv hk').2 (hB k hk')
    · obtain ⟨i,hi,rfl⟩:=List.mem_map.1 h
      obtain ⟨g1,g2⟩:=List.mem_filter.1 hi
      have g3:=List.mem_range.1 g1
      exact (res_hold g3).2 (hF i g3 g2)
theorem base_small {b:Ben}(hv:ValidB b){x:Nat→Int}(h:Base b x){i k:Nat}(hi:i<sizeB b) (hk:k<sizeB b):x k-x i≤1000000:=by
  obtain ⟨g1,g2,g3⟩:=startT_ok hv
  have h1:=(g3 x).2 h i k hi hk (g2 i k hi hk)
  have h2:=g2 i k hi hk
  rcases g1.small hi hk with h3 | h3 <;> omega
theorem base_free {b:Ben}(hv:ValidB b){x:Nat→Int}(h:Base b x):SolK (sizeB b) (freeK (sizeB b)) fun j=>-x j:=
  free_sol fun u v hu hv'=>by
    have:=base_small hv h hv' hu
    show -x v - -x u≤_
    omega
theorem learn_use {b:Ben}(hv:ValidB b) (use:List Bool):learnB b use=false↔¬ ∃x,Base b x∧∀i,i<resN b→nth use i=true→FctHolds x (nth (resF b) i):=by
  have hz:=sizeB_le hv
  rcases learn_main hv use with ⟨h1,h2⟩ | ⟨h1,_,h3,h4⟩
  · exact ⟨fun _=>fun ⟨x,hx⟩=>h2 _ ⟨base_free hv hx.1,(useL_hold hv use).2 hx⟩,fun _=>h1⟩
  · constructor
    · intro h;rw [h1] at h;cases h
    · intro h
      have hy:=((h4 _).1 (cl_reach h3 (show 0<sizeB b by omega))).2
      exact absurd ⟨fun j=>-at1 (learnK b use) 0 j,(useL_hold hv use).1 (by simpa using hy)⟩ h
def wthU (b:Ben) (l:List Nat):List Bool:=l.foldl (fun u i=>u.set i true) (List.replicate (resN b) false)
theorem setAll_nth:∀(l:List Nat) (u:List Bool) (k:Nat),(∀i∈l,i<u.length)→(nth (l.foldl (fun u i=>u.set i true) u) k=true↔k∈l∨nth u k=true)
  | [],u,k,_=>by simp
  | i :: l,u,k,h=>by
    have hi:=h i (by simp)
    rw [List.foldl_cons,setAll_nth l _ k (fun j hj=>by rw [List.length_set];exact h j (by simp [hj])),nth_setq hi,List.mem_cons]
    by_cases e:k=i
    · simp [e]
    · simp [e]
theorem wthU_nth {b:Ben}{l:List Nat}(h:∀i∈l,i<resN b) (k:Nat):nth (wthU b l) k=true↔k∈l:=by
  unfold wthU
  rw [setAll_nth _ _ _ (by simpa using h)]
  constructor
  · rintro (h | h)
    · exact h
    · exfalso
      unfold nth at h
      rw [List.getD_eq_getElem?_getD,List.getElem?_replicate] at h
      split at h
      · simp at h
      · cases h
  · exact .inl
theorem learn_bad {b:Ben}(hv:ValidB b){l:List Nat}(h:∀i∈l,i<resN b):learnB b (wthU b l)=false↔BadL b l:=by
  rw [learn_use hv]
  have e:∀x,(Base b x∧∀i,i<resN b→nth (wthU b l) i=true→FctHolds x (nth (resF b) i))↔(Base b x∧∀i∈l,FctHolds x (nth (resF b) i)):=fun x =>
    ⟨fun ⟨h1,h2⟩=>⟨h1,fun i hi=>h2 i (h i hi) ((wthU_nth h i).2 hi)⟩,fun ⟨h1,h2⟩=>⟨h1,fun i _ hn=>h2 i ((wthU_nth h i).1 hn)⟩⟩
  unfold BadL
  simp only [e]
abbrev chF (b:Ben) (l:List Nat):List Fct:=l.map fun i=>nth (resF b) i
theorem chF_ok {b:Ben}(hv:ValidB b){l:List Nat}(h:∀i∈l,i<resN b):∀f∈chF b l,FctOk (sizeB b) f:=fun f hf=>by
  obtain ⟨i,hi,rfl⟩:=List.mem_map.1 hf
  have h2:i<(resF b).length:=by rw [resF_len];exact h i hi
  rw [nth_get h2]
  exact resF_ok hv _ (List.getElem_mem h2)
theorem add_bad {b:Ben}(hv:ValidB b){l:List Nat}(h:∀i∈l,i<resN b):addAll (startT b) (chF b l)=none↔BadL b l:=by
  obtain ⟨h1,h2,h3⟩:=startT_ok hv
  have hz:=sizeB_le hv
  have e:∀x,(∀f∈chF b l,FctHolds x f)↔∀i∈l,FctHolds x (nth (resF b) i):=fun x=>by simp [chF]
  constructor
  · rintro hn ⟨x,hx,hr⟩
    exact addAll_none h1 h2 (chF_ok hv h) hn x ((h3 x).2 hx) ((e x).2 hr)
  · intro hn
    cases hu:addAll (startT b) (chF b l) with
    | none=>rfl
    | some u =>
      obtain ⟨g1,g2,g3⟩:=addAll_some h1 h2 (chF_ok hv h) hu
      obtain ⟨k1,k2⟩:=(g3 _).1 (g1.reach g2 (show 0<sizeB b by omega))
      exact absurd ⟨_,(h3 _).1 k1,(e _).1 k2⟩ hn
/-! all choices of so many numbers, from some on -/
def choN (n:Nat):Nat→Nat→List (List Nat)
  | 0,_=>[[]]
  | m+1,i=>(List.range' i (n-i)).flatMap fun k=>(choN n m (k+1)).map (k :: ·)
def Asc (n:Nat):Nat→List Nat→Prop
  | _,[]=>True
  | i,x :: xs=>i≤x∧x<n∧Asc n (x+1) xs
theorem choN_mem {n : Nat} : ∀ {m i : Nat} {l : List Nat}, l ∈ choN n m i ↔ l.length = m ∧ Asc n i l
  | 0,i,l=>by
    rw [choN,List.mem_singleton]
    constructor
    · rintro rfl;exact ⟨rfl,trivial⟩
    · rintro ⟨h,_⟩;exact List.length_eq_zero_iff.1 h
  | m + 1, i, l => by
    rw [choN,List.mem_flatMap]
    constructor
    · rintro ⟨k,hk,hl⟩
      obtain ⟨l',h1,rfl⟩:=List.mem_map.1 hl
      obtain ⟨h2,h3⟩:=choN_mem.1 h1
      rw [List.mem_range'_1] at hk
      exact ⟨by simp [h2],by omega,by omega,h3⟩
    · rintro ⟨h1,h2⟩
      cases l with
      | nil=>simp at h1
      | cons x xs =>
        obtain ⟨g1,g2,g3⟩:=h2
        exact ⟨x,by rw [List.mem_range'_1];omega,List.mem_map.2 ⟨xs,choN_mem.2 ⟨by simpa using h1,g3⟩,rfl⟩⟩
theorem Asc.lt {n:Nat}:∀ {l:List Nat}{i:Nat},Asc n i l→∀k∈l,k<n
  | [],i,h,k,hk=>by cases hk
  | x :: xs,i,h,k,hk=>by
    rcases List.mem_cons.1 hk with rfl | hk
    · exact h.2.1
    · exact h.2.2.lt k hk
theorem Asc.len {n:Nat}:∀ {l:List Nat}{i:Nat},Asc n i l→l.length+i≤n∨l=[]
  | [],i,h=>.inr rfl
  | x :: xs,i,h=>by
    rcases h.2.2.len with g | rfl
    · have:=h.1;left;simp only [List.length_cons];omega
    · left;have:=h.1;have:=h.2.1;simp only [List.length_cons,List.length_nil];omega
theorem choN_short {n m i:Nat}(h:n<m+1+i):choN n (m+1) i=[]:=by
  rw [List.eq_nil_iff_forall_not_mem]
  intro l hl
  obtain ⟨h1,h2⟩:=choN_mem.1 hl
  rcases h2.len with g | rfl
  · omega
  · simp at h1
def badB (b:Ben) (l:List Nat):Bool:=!learnB b (wthU b l)
theorem badB_iff {b:Ben}(hv:ValidB b){l:List Nat}(h:∀i∈l,i<resN b):badB b l=true↔BadL b l:=by
  unfold badB
  rw [←learn_bad hv h];simp
def intL (l:List Nat):List Int:=l.map Int.ofNat
theorem firstI_cut {g:Nat→Option (List Int)}:∀(c d i:Nat),(∀k,i+c≤k→k<i+c+d→g k=none)→firstI g i (c+d)=firstI g i c
  | 0,0,i,_=>rfl
  | 0,d+1,i,h=>by
    rw [Nat.zero_add,firstI_none (h i (by omega) (by omega))]
    have:=firstI_cut 0 d (i+1) fun k h1 h2=>h k (by omega) (by omega)
    rw [Nat.zero_add] at this
    rw [this];rfl
  | c+1,d,i,h=>by
    rw [show c+1+d=(c+d)+1 by omega,firstI,firstI]
    split
    · rfl
    · exact firstI_cut c d (i+1) fun k h1 h2=>h k (by omega) (by omega)
theorem srch_find {b : Ben} (hv : ValidB b) : ∀ (m i : Nat) (ch : List Nat) (t : Tab), i ≤ resN b → (∀ k ∈ ch, k < resN b) → addAll (startT b) (chF b ch) = some t →
    (∀l,Asc (resN b) i l→l.length<m+1→¬BadL b (ch++l)) →
    srchT (resF b) (m+1) t (intL ch) i=((choN (resN b) (m+1) i).find? fun l=>badB b (ch++l)).map fun l=>intL (ch++l)
  | m, i, ch, t, hi, hch, ht, hg => by
    rw [srchT]
    have hlen:=resF_len b
    have key:∀k,i≤k→k<resN b→srchG (resF b) (srchT (resF b) m) m t (intL ch) k=(((choN (resN b) m (k+1)).map (k :: ·)).find? fun l=>badB b (ch++l)).map fun l=>intL (ch++l):=by
      intro k h1 h2
      have hck:∀j∈ch++[k],j<resN b:=fun j hj=>by
        rcases List.mem_append.1 hj with h | h
        · exact hch j h
        · rw [List.mem_singleton.1 h];exact h2
      have hadd:addAll (startT b) (chF b (ch++[k]))=withF t (nth (resF b) k):=by
        unfold chF
        rw [List.map_append,addAll_append]
        show (match addAll (startT b) (chF b ch) with | some u=>_ | none=>none)=_
        rw [ht]
        show (match withT t (nth (resF b) k).1 (nth (resF b) k).2.1 (nth (resF b) k).2.2 with | some u=>some u | none=>none)=_
        unfold withF
        split<;>rename_i e<;>rw [e]
      have hint:intL ch++[(k:Int)]=intL (ch++[k]):=by unfold intL;rw [List.map_append];rfl
      unfold srchG
      rw [hint]
      cases m with
      | zero =>
        have hb:=badB_iff hv hck
        have ha:=add_bad hv hck
        rw [hadd] at ha
        rw [choN]
        cases hw:withF t (nth (resF b) k) with
        | none =>
          have:badB b (ch++[k])=true:=hb.2 (ha.1 hw)
          simp [List.find?,this]
        | some u =>
          have:badB b (ch++[k])=false:=by
            rw [←Bool.not_eq_true]
            intro hbb
            have:=ha.2 (hb.1 hbb)
            rw [hw] at this;cases this
          simp [List.find?,this,srchT]
      | succ m =>
        have hgood:¬BadL b (ch++[k]):=hg [k] ⟨h1,h2,trivial⟩ (by simp)
        cases hw:withF t (nth (resF b) k) with
        | none=>exact absurd ((add_bad hv hck).1 (hadd.trans hw)) hgood
        | some u =>
          have ih:=srch_find hv m (k+1) (ch++[k]) u (by omega) hck (hadd.trans hw) fun l hl hlen=>by
            rw [List.append_assoc]
            exact hg (k :: l) ⟨h1,h2,hl⟩ (by simp;omega)
          show srchT (resF b) (m+1) u (intL (ch++[k])) (k+1)=_
          rw [ih,List.find?_map]
          simp only [Function.comp_def,List.append_assoc,List.singleton_append,Option.map_map]
    have hcut:firstI (srchG (resF b) (srchT (resF b) m) m t (intL ch)) i ((resF b).length-m-i)=firstI (srchG (resF b) (srchT (resF b) m) m t (intL ch)) i (resN b-i):=by
      rw [hlen]
      have e:resN b-i=(resN b-m-i)+(resN b-i-(resN b-m-i)):=by omega
      rw [e]
      symm
      refine firstI_cut _ _ _ fun k h1 h2=>?_
      rw [key k (by omega) (by omega)]
      cases m with
      | zero=>omega
      | succ m=>rw [choN_short (by omega)];rfl
    rw [hcut,choN]
    have gen:∀(c i:Nat),i+c=resN b→(∀k,i≤k→k<resN b→srchG (resF b) (srchT (resF b) m) m t (intL ch) k=(((choN (resN b) m (k+1)).map (k :: ·)).find? fun l=>badB b (ch++l)).map fun l=>intL (ch++l)) →
        firstI (srchG (resF b) (srchT (resF b) m) m t (intL ch)) i c=(((List.range' i c).flatMap fun k=>(choN (resN b) m (k+1)).map (k :: ·)).find? fun l=>badB b (ch++l)).map fun l=>intL (ch++l):=by
      intro c
      induction c with
      | zero=>intro i _ _;rfl
      | succ c ih =>
        intro i h hg
        rw [List.range'_succ,List.flatMap_cons,List.find?_append]
        have h0:=hg i (Nat.le_refl _) (by omega)
        cases hq:((choN (resN b) m (i+1)).map (i :: ·)).find? (fun l=>badB b (ch++l)) with
        | some l=>rw [hq] at h0;rw [firstI_some h0];rfl
        | none =>
          rw [hq] at h0
          rw [firstI_none h0,ih (i+1) (by omega) fun k h1 h2=>hg k (by omega) h2]
          rfl
    exact gen _ _ (by omega) key
def rclN (b : Ben) : Nat → Nat → Option (List Nat)
  | _,0=>none
  | many,c+1=>match (choN (resN b) many 0).find? (badB b) with
    | some l=>some l
    | none=>rclN b (many+1) c
theorem clash_find {b : Ben} (hv : ValidB b) : ∀ (c m : Nat), (∀ l, Asc (resN b) 0 l → l.length < m + 1 → ¬ BadL b l) → clashN b (m + 1) c = (rclN b (m + 1) c).map intL
  | 0,m,_=>rfl
  | c + 1, m, hg => by
    have h:=srch_find hv m 0 [] (startT b) (by omega) (by simp) rfl (by simpa using hg)
    rw [clashN,rclN]
    simp only [List.nil_append] at h
    have e:(fun l=>badB b l)=badB b:=rfl
    rw [e] at h
    show (match srchT (resF b) (m+1) (startT b) (intL []) 0 with | some l=>some l | none=>clashN b (m+1+1) c)=_
    rw [h]
    cases hq:(choN (resN b) (m+1) 0).find? (badB b) with
    | some l=>rfl
    | none =>
      show clashN b (m+1+1) c=_
      refine clash_find hv c (m+1) fun l hl hlen=>?_
      by_cases e:l.length<m+1
      · exact hg l hl e
      · have h2:=List.find?_eq_none.1 hq l (choN_mem.2 ⟨by omega,hl⟩)
        exact fun hb=>h2 ((badB_iff hv hl.lt).2 hb)
theorem base_some {b:Ben}(hv:ValidB b):¬BadL b []:=fun h=>by
  have:=(add_bad hv (l:=[]) (by simp)).2 h
  cases this
theorem clash_prog {b:Ben}(hv:ValidB b) (c:Nat):clashN b 1 c=(rclN b 1 c).map intL:=
  clash_find hv c 0 fun l _ hl=>by
    rw [List.length_eq_zero_iff.1 (show l.length=0 by omega)]
    exact base_some hv
/-! the reference looks at all but the last size -/
theorem rclN_snoc (b:Ben):∀(c m:Nat),rclN b m (c+1)=match rclN b m c with | some l=>some l | none=>(choN (resN b) (m+c) 0).find? (badB b)
  | 0,m=>by
    show (match (choN (resN b) m 0).find? (badB b) with | some l=>some l | none=>none)=(choN (resN b) m 0).find? (badB b)
    split<;>rename_i e<;>rw [e]
  | c+1,m=>by
    rw [rclN,rclN_snoc b c (m+1),rclN]
    cases (choN (resN b) m 0).find? (badB b) with
    | some l=>rfl
    | none=>rw [show m+1+c=m+(c+1) by omega]
theorem choN_all {n:Nat}:∀ {m i:Nat},i+m=n→choN n m i=[List.range' i m]
  | 0,i,h=>rfl
  | m + 1, i, h => by
    rw [choN,show n-i=m+1 by omega,List.range'_succ,List.flatMap_cons,choN_all (by omega)]
    have e:(List.range' (i+1) m).flatMap (fun k=>(choN n m (k+1)).map (k :: ·))=[]:=by
      rw [List.flatMap_eq_nil_iff]
      intro k hk
      rw [List.mem_range'_1] at hk
      cases m with
      | zero=>omega
      | succ m=>rw [choN_short (by omega)];rfl
    rw [e];rfl
def rclF (b:Ben):List Nat:=(rclN b 1 (resN b-1)).getD (List.range (resN b))
def rclL (b:Ben):List Int:=if checkB b=0 then (if learnB b (allR b)=true then [] else intL (rclF b)) else []
def rclE (b:Ben):Int:=if checkB b=0 then (if learnB b (allR b)=true then 3 else 0) else checkB b
theorem all_bad {b:Ben}(hv:ValidB b):learnB b (allR b)=false↔BadL b (List.range (resN b)):=by
  rw [learn_use hv]
  have e:∀x,(Base b x∧∀i,i<resN b→nth (allR b) i=true→FctHolds x (nth (resF b) i))↔(Base b x∧∀i∈List.range (resN b),FctHolds x (nth (resF b) i)):=fun x =>
    ⟨fun ⟨h1,h2⟩=>⟨h1,fun i hi=>h2 i (List.mem_range.1 hi) (allR_nth (List.mem_range.1 hi))⟩,fun ⟨h1,h2⟩=>⟨h1,fun i hi _=>h2 i (List.mem_range.2 hi)⟩⟩
  unfold BadL
  simp only [e]
theorem bad_mono {b:Ben}{l m:List Nat}(h:∀i∈l,i∈m) (hb:BadL b l):BadL b m:=fun ⟨x,h1,h2⟩=>hb ⟨x,h1,fun i hi=>h2 i (h i hi)⟩
theorem clash_good {b:Ben}(hv:ValidB b) (hl:learnB b (allR b)=true):∀c m,rclN b m c=none
  | 0,m=>rfl
  | c + 1, m => by
    have:(choN (resN b) m 0).find? (badB b)=none:=List.find?_eq_none.2 fun l h hb=>by
      obtain ⟨h1,h2⟩:=choN_mem.1 h
      have h3:=(all_bad hv).2 (bad_mono (fun i hi=>List.mem_range.2 (h2.lt i hi)) ((badB_iff hv h2.lt).1 hb))
      rw [hl] at h3;cases h3
    rw [rclN,this]
    exact clash_good hv hl c (m+1)
theorem clash_bad {b:Ben}(hv:ValidB b) (hl:learnB b (allR b)=false):rclN b 1 (resN b)=some (rclF b):=by
  have hb:=(all_bad hv).1 hl
  have h0:resN b≠0:=fun e=>by rw [e] at hb;exact base_some hv hb
  obtain ⟨c,hc⟩:∃c,resN b=c+1:=⟨resN b-1,by omega⟩
  unfold rclF
  rw [hc,rclN_snoc,Nat.add_sub_cancel]
  cases rclN b 1 c with
  | some l=>rfl
  | none =>
    show _=some (List.range (c+1))
    rw [show 1+c=resN b by omega,choN_all (by omega),List.find?_cons,←List.range_eq_range',←hc]
    rw [show badB b (List.range (resN b))=true from (badB_iff hv (by simp)).2 hb]
def optL:Option (List Int)→List Int
  | none=>[]
  | some l=>l
theorem clash_same (b:Ben):optL (clashL b)=rclL b∧clashE b=rclE b:=by
  unfold clashL clashE rclL rclE
  by_cases h:checkB b=0
  · have hv:=checkB_zero.1 h
    simp only [h,if_true]
    rw [resF_len,clash_prog hv]
    cases hl:learnB b (allR b) with
    | true=>rw [clash_good hv hl];exact ⟨rfl,rfl⟩
    | false=>rw [clash_bad hv hl];exact ⟨rfl,rfl⟩
  · simp only [h,if_false]
    first | exact ⟨rfl,rfl⟩ | exact ⟨rfl,trivial⟩
end Go.Sim
