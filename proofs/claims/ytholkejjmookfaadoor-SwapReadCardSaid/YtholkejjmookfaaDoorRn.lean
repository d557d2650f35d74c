/- Parts and numbers of texts, in plain Lean. -/
import Derived.Lib.SplitLaws
import Derived.Lib.AtoiAll
import Derived.Lib.ItoaNum
import Derived.Lib.ItoaLen
import Derived.Lib.Strings
set_option linter.all false
namespace Go.Sim
open Go
def spl (c:UInt8):List UInt8→List UInt8→List (List UInt8)
  | cur,[]=>[cur]
  | cur,b :: l=>if b=c then cur :: spl c [] l else spl c (cur++[b]) l
theorem spl_ne {c:UInt8}:∀ {l cur:List UInt8},spl c cur l≠[]
  | [],_=>by simp [spl]
  | b :: l,cur=>by
    rw [spl];split
    · simp
    · exact spl_ne
theorem spl_free {c:UInt8}:∀ {l cur:List UInt8},c ∉ l→spl c cur l=[cur++l]
  | [],cur,_=>by simp [spl]
  | b :: l,cur,h=>by
    have hb:b≠c:=fun e=>h (by simp [e])
    rw [spl,if_neg hb,spl_free (fun k=>h (List.mem_cons_of_mem _ k))];simp
theorem spl_hit {c:UInt8}{r:List UInt8}:∀ {p cur:List UInt8},c ∉ p→spl c cur (p++c :: r)=(cur++p) :: spl c [] r
  | [],cur,_=>by simp [spl]
  | b :: p,cur,h=>by
    have hb:b≠c:=fun e=>h (by simp [e])
    rw [List.cons_append,spl,if_neg hb,spl_hit (fun k=>h (List.mem_cons_of_mem _ k))];simp
theorem spl_len {c:UInt8}:∀ {l cur:List UInt8},(spl c cur l).length≤l.length+1
  | [],_=>by simp [spl]
  | b :: l,cur=>by
    rw [spl];split
    · have:=spl_len (c:=c) (l:=l) (cur:=[]);simp;omega
    · have:=spl_len (c:=c) (l:=l) (cur:=cur++[b]);simp;omega
theorem spl_part {c:UInt8}:∀ {l cur p:List UInt8},p∈spl c cur l→p.length≤cur.length+l.length
  | [],cur,p,h=>by simp [spl] at h;subst h;simp
  | b :: l, cur, p, h => by
    rw [spl] at h;split at h
    · rcases List.mem_cons.1 h with rfl | h
      · simp
      · have:=spl_part h;simp at this ⊢;omega
    · have:=spl_part h;simp at this ⊢;omega
def unspl (c:UInt8):List (List UInt8)→List UInt8
  | []=>[]
  | [p]=>p
  | p :: q :: r=>p++c :: unspl c (q :: r)
theorem unspl_cons {c:UInt8}{p:List UInt8}{r:List (List UInt8)}(h:r≠[]):unspl c (p :: r)=p++c :: unspl c r:=by
  cases r with
  | nil=>exact absurd rfl h
  | cons q r=>rfl
theorem unspl_spl {c:UInt8}:∀ {l cur:List UInt8},unspl c (spl c cur l)=cur++l
  | [],cur=>by simp [spl,unspl]
  | b :: l, cur => by
    rw [spl];split
    · rename_i hb;subst hb
      rw [unspl_cons spl_ne,unspl_spl];simp
    · rw [unspl_spl];simp
theorem spl_unspl {c:UInt8}:∀ {ps:List (List UInt8)},ps≠[]→(∀p∈ps,c ∉ p)→spl c [] (unspl c ps)=ps
  | [],h,_=>absurd rfl h
  | [p],_,h=>by rw [unspl,spl_free (h p (by simp))];rfl
  | p :: q :: r,_,h=>by
    rw [unspl_cons (by simp),spl_hit (h p (by simp)),spl_unspl (by simp) fun x hx=>h x (List.mem_cons_of_mem _ hx)];rfl
theorem index_cut (c : UInt8) : ∀ l : List UInt8, (Lib.index l [c] = -1 ∧ c ∉ l) ∨ ∃ p r, l = p ++ c :: r ∧ c ∉ p ∧ Lib.index l [c] = (p.length : Int)
  | []=>.inl ⟨by simp [Lib.index],by simp⟩
  | b :: l => by
    unfold Lib.index
    by_cases h:c=b
    · subst h;exact .inr ⟨[],l,rfl,by simp,by simp [List.isPrefixOf]⟩
    · have hp:List.isPrefixOf [c] (b :: l)=false:=by simp [List.isPrefixOf,h]
      rw [hp]
      rcases index_cut c l with ⟨h1,h2⟩ | ⟨p,r,h1,h2,h3⟩
      · left;exact ⟨by simp [h1],by simp [h,h2]⟩
      · right;refine ⟨b :: p,r,by simp [h1],by simp [h2,h], ?_⟩
        rw [h3]
        have:((p.length:Int)==-1)=false:=by rw [beq_eq_false_iff_ne];omega
        simp [this]
theorem split_spl (c : UInt8) : ∀ (n : Nat) (l : List UInt8), l.length ≤ n → Lib.splitK [c] 0 (Lib.count l [c]) l = spl c [] l := by
  intro n
  induction n with
  | zero =>
    intro l hl
    have:l=[]:=List.length_eq_zero_iff.1 (by omega)
    subst this
    rw [Lib.count_miss (by simp [Lib.index])];rfl
  | succ n ih =>
    intro l hl
    rcases index_cut c l with ⟨h1,h2⟩ | ⟨p,r,rfl,h2,h3⟩
    · rw [Lib.count_miss h1,spl_free h2];rfl
    · have hd:(p++c :: r).drop (p.length+[c].length)=r:=by
        simp [List.drop_append]
      rw [Lib.count_hit (by simp) h3,hd,spl_hit h2,Nat.add_comm,Lib.splitK,h3]
      have:((p.length:Int)==-1)=false:=by rw [beq_eq_false_iff_ne];omega
      rw [this,if_neg (by simp),Int.toNat_natCast,hd,ih r (by simp at hl;omega)]
      simp
def ba (l:List UInt8):ByteArray:=⟨l.toArray⟩
@[simp] theorem ba_toList (l:List UInt8):(ba l).data.toList=l:=by simp [ba]
theorem ba_of (s:ByteArray):ba s.data.toList=s:=by
  cases s;simp [ba]
theorem ba_size (l:List UInt8):(ba l).size=l.length:=by
  show (l.toArray).size=_;simp
theorem ba_app (a b:List UInt8):ba a++ba b=ba (a++b):=by
  apply ByteArray.ext;simp [ba,ByteArray.data_append]
theorem splitB_spl (c:UInt8) (s:ByteArray):Lib.splitB (ba [c]) 0 (Lib.countB s (ba [c])) s=(spl c [] s.data.toList).map ba:=by
  have h:=Lib.splitB_data (ba [c]) 0 (Lib.countB s (ba [c])) s
  have e:Lib.countB s (ba [c])=Lib.count s.data.toList [c]:=by show Lib.count _ _=_;rw [ba_toList]
  rw [ba_toList,e,split_spl c _ _ (Nat.le_refl _)] at h
  rw [e,←h,List.map_map]
  conv=>lhs;rw [←List.map_id (Lib.splitB (ba [c]) 0 _ s)]
  exact List.map_congr_left fun x _=>(ba_of x).symm
/-! ### numbers -/
theorem snoc_ind {α:Type}{p:List α→Prop}(h0:p []) (h1:∀l b,p l→p (l++[b])) (l:List α):p l:=by
  have:∀l:List α,p l.reverse:=by
    intro l
    induction l with
    | nil=>exact h0
    | cons b l ih=>rw [List.reverse_cons];exact h1 _ _ ih
  have h:=this l.reverse
  rwa [List.reverse_reverse] at h
def isDig (b:UInt8):Bool:=48≤b.toNat&&b.toNat≤57
def valD (l:List UInt8):Nat:=l.foldl (fun n b=>10 * n+(b.toNat-48)) 0
theorem valD_snoc (l:List UInt8) (b:UInt8):valD (l++[b])=10 * valD l+(b.toNat-48):=by simp [valD]
theorem dig_of {k:Nat}(h:k<10):isDig (UInt8.ofNat (48+k))=true∧(UInt8.ofNat (48+k)).toNat=48+k:=by
  have e:(UInt8.ofNat (48+k)).toNat=48+k:=by rw [UInt8.toNat_ofNat'];omega
  exact ⟨by unfold isDig;rw [e];simp;omega,e⟩
theorem dec_digs (u:Nat):Lib.decDigits u≠[]∧(Lib.decDigits u).all isDig=true∧valD (Lib.decDigits u)=u∧((Lib.decDigits u).head?=some 48→u=0):=by
  induction u using Nat.strongRecOn with
  | _ u ih =>
    rw [Lib.decDigits]
    by_cases h:u<10
    · rw [dif_pos h]
      have:=dig_of h
      refine ⟨by simp,by rw [List.all_cons,List.all_nil,Bool.and_true];exact this.1,by unfold valD;rw [List.foldl_cons,List.foldl_nil,this.2];omega,fun e=>?_⟩
      have e1:UInt8.ofNat (48+u)=48:=by simpa using e
      have:=congrArg UInt8.toNat e1
      rw [(dig_of h).2] at this
      have e2:(48:UInt8).toNat=48:=rfl
      omega
    · rw [dif_neg h]
      obtain ⟨h1,h2,h3,h4⟩:=ih (u / 10) (by omega)
      have hd:=dig_of (k:=u % 10) (by omega)
      refine ⟨by simp,by rw [List.all_append,h2,Bool.true_and,List.all_cons,List.all_nil,Bool.and_true];exact hd.1,by rw [valD_snoc,h3,hd.2];omega,fun e=>?_⟩
      rw [List.head?_append] at e
      obtain ⟨x,r,hx⟩:=List.exists_cons_of_ne_nil h1
      rw [hx] at e h4
      have:=h4 (by simpa using e)
      omega
theorem dec_small {w:List UInt8}:w.all isDig=true→valD w<10 ^ w.length:=by
  induction w using snoc_ind with
  | h0=>intro _;simp [valD]
  | h1 l b ih =>
    intro h
    simp only [List.all_append,Bool.and_eq_true] at h
    have hb:isDig b=true:=by simpa using h.2
    have:=ih h.1
    simp only [isDig,Bool.and_eq_true,decide_eq_true_eq] at hb
    rw [valD_snoc,List.length_append,List.length_singleton,Nat.pow_succ]
    omega
theorem dec_of {w : List UInt8} : w ≠ [] → w.all isDig = true → (w.head? = some 48 → w.length = 1) → Lib.decDigits (valD w) = w := by
  induction w using snoc_ind with
  | h0=>intro hne;exact absurd rfl hne
  | h1 l b ih =>
    intro hne hd h0
    simp only [List.all_append,Bool.and_eq_true] at hd
    have hb:isDig b=true:=by simpa using hd.2
    have hb2:=hb
    simp only [isDig,Bool.and_eq_true,decide_eq_true_eq] at hb2
    have hbo:UInt8.ofNat (48+(b.toNat-48))=b:=by
      rw [show 48+(b.toNat-48)=b.toNat by omega];exact UInt8.ofNat_toNat
    rw [valD_snoc]
    cases l with
    | nil =>
      rw [Lib.decDigits,dif_pos (by simp [valD];omega)]
      simp [valD,hbo]
    | cons a r =>
      have ha:a≠48:=fun e=>by
        have:=h0 (by simp [e]);simp at this
      have hih:=ih (by simp) hd.1 (fun e=>absurd (by simpa using e) ha)
      have hpos:valD (a :: r)≠0:=fun e=>by
        rw [e] at hih
        have e2:Lib.decDigits 0=[48]:=by rw [Lib.decDigits,dif_pos (by omega)];rfl
        rw [e2] at hih
        simp at hih
        exact ha hih.1.symm
      rw [Lib.decDigits,dif_neg (by omega),show (10 * valD (a :: r)+(b.toNat-48)) / 10=valD (a :: r) by omega,hih,show (10 * valD (a :: r)+(b.toNat-48)) % 10=b.toNat-48 by omega,hbo]
def numU (k:Nat) (w:List UInt8):Option Int:=if w≠[]∧w.length≤k∧w.all isDig=true∧(w.head?=some 48→w.length=1) then some (valD w) else none
theorem itoa_nn {n:Int}(h:0≤n):Lib.itoa n=Lib.decDigits n.toNat:=by unfold Lib.itoa;rw [if_neg (by omega)]
theorem itoa_ng {n:Int}(h:n<0):Lib.itoa n=45 :: Lib.decDigits n.natAbs:=by unfold Lib.itoa;rw [if_pos h]
theorem numU_iff {k:Nat}{w:List UInt8}{n:Int}:numU k w=some n↔0≤n∧w=Lib.itoa n∧w.length≤k:=by
  unfold numU
  constructor
  · intro h
    split at h
    · rename_i hc
      obtain ⟨h1,h2,h3,h4⟩:=hc
      have:n=(valD w:Int):=by simpa using h.symm
      subst this
      exact ⟨by omega,by rw [itoa_nn (by omega),Int.toNat_natCast,dec_of h1 h3 h4],h2⟩
    · cases h
  · rintro ⟨h1,rfl,h3⟩
    rw [itoa_nn h1] at h3 ⊢
    obtain ⟨q1,q2,q3,q4⟩:=dec_digs n.toNat
    rw [if_pos ⟨q1,h3,q2,fun e=>by rw [q4 e,Lib.decDigits,dif_pos (by omega)];rfl⟩,q3]
    simp;omega
theorem dec_no45 (u:Nat):(45:UInt8) ∉ Lib.decDigits u:=fun h=>by
  have:=List.all_eq_true.1 (dec_digs u).2.1 _ h
  exact absurd this (by decide)
def trimM (w:List UInt8):List UInt8:=match w with | 45 :: r=>r | w=>w
theorem valD_cons (b:UInt8) (l:List UInt8) (acc:Nat):(b :: l).foldl (fun n b=>10 * n+(b.toNat-48)) acc=l.foldl (fun n b=>10 * n+(b.toNat-48)) (10 * acc+(b.toNat-48)):=by rw [List.foldl_cons]
theorem parse10_ok (M:Nat) (hM:M≤1844674407370955162) (l:List UInt8):∀acc:Nat,l.all isDig=true→(acc+1) * 10 ^ l.length≤M→Lib.parseUint10 acc l = .ok (l.foldl (fun n b=>10 * n+(b.toNat-48)) acc):=by
  induction l with
  | nil=>intro acc _ _;rfl
  | cons b l ih =>
    intro acc h hb
    simp only [List.all_cons,Bool.and_eq_true,isDig,decide_eq_true_eq] at h
    have hp:1≤10 ^ l.length:=Nat.one_le_pow _ _ (by decide)
    rw [List.length_cons,Nat.pow_succ] at hb
    have h0:(acc+1) * 10≤M:=Nat.le_trans (by rw [←Nat.mul_assoc,Nat.mul_right_comm];exact Nat.le_mul_of_pos_right _ hp) hb
    have hn:(acc * 10+(b.toNat-48)+1) * 10 ^ l.length≤M:=by
      refine Nat.le_trans (Nat.mul_le_mul_right _ (show acc * 10+(b.toNat-48)+1≤(acc+1) * 10 by omega)) ?_
      rw [Nat.mul_assoc,Nat.mul_comm 10];exact hb
    have e1:¬1844674407370955162≤acc:=by omega
    have e2:¬18446744073709551616≤acc * 10+(b.toNat-48):=by omega
    rw [Lib.parseUint10,if_pos h.1,if_neg e1,if_neg e2,ih _ (by simpa [isDig] using h.2) hn,valD_cons,Nat.mul_comm acc]
theorem atoi_itoa {n : Int} (h : (trimM (Lib.itoa n)).length ≤ 17) : Lib.atoiAll (Lib.itoa n) = .ok n := by
  have key:∀u:Nat,(Lib.decDigits u).length≤17→Lib.parseMag (Lib.decDigits u) = .ok u∧u<100000000000000000:=by
    intro u hu
    obtain ⟨q1,q2,q3,q4⟩:=dec_digs u
    have hp:10 ^ (Lib.decDigits u).length≤10 ^ 17:=Nat.pow_le_pow_right (by decide) hu
    have hs:=dec_small q2
    rw [q3] at hs
    refine ⟨?_,by omega⟩
    unfold Lib.parseMag
    rw [if_neg q1,parse10_ok _ (Nat.le_refl _) _ 0 q2 (by omega)]
    exact congrArg _ q3
  by_cases hn:n<0
  · rw [itoa_ng hn] at h ⊢
    obtain ⟨k1,k2⟩:=key _ h
    have e45:(45:UInt8).toNat=45:=rfl
    unfold Lib.atoiAll
    simp only [e45,or_true,if_true,k1,not_true,false_and,if_false,true_and]
    have e1:¬9223372036854775808<n.natAbs:=by omega
    rw [if_neg e1]
    congr 1;omega
  · rw [itoa_nn (by omega)] at h ⊢
    have h3:(Lib.decDigits n.toNat).length≤17:=by
      unfold trimM at h
      split at h
      · rename_i r heq
        exact absurd (by rw [heq];simp) (dec_no45 n.toNat)
      · exact h
    obtain ⟨k1,k2⟩:=key _ h3
    obtain ⟨q1,q2,q3,q4⟩:=dec_digs n.toNat
    obtain ⟨b,r,hbr⟩:=List.exists_cons_of_ne_nil q1
    rw [hbr] at k1 q2 ⊢
    simp only [List.all_cons,Bool.and_eq_true,isDig,decide_eq_true_eq] at q2
    unfold Lib.atoiAll
    have g1:¬b.toNat=43:=by omega
    have g2:¬b.toNat=45:=by omega
    simp only [g1,g2,or_self,if_false,k1,not_false_eq_true,true_and,false_and]
    have e1:¬9223372036854775808≤n.toNat:=by omega
    rw [if_neg e1]
    congr 1;omega
theorem numU_prog {k:Nat}(hk:k≤17) (w:List UInt8) (v:Int):(Lib.atoiAll w = .ok v∧0≤v∧w.length≤k∧Lib.itoa v=w)↔numU k w=some v:=by
  rw [numU_iff]
  constructor
  · rintro ⟨_,h2,h3,h4⟩;exact ⟨h2,h4.symm,h3⟩
  · rintro ⟨h1,h2,h3⟩
    refine ⟨?_,h1,h3,h2.symm⟩
    rw [h2]
    refine atoi_itoa (Nat.le_trans ?_ (Nat.le_trans h3 hk))
    rw [←h2];unfold trimM;split<;>simp
theorem itoa_pure {n:Int}{c:UInt8}(h1:c≠45) (h2:isDig c=false):c ∉ Lib.itoa n:=by
  intro h
  unfold Lib.itoa at h
  split at h
  · rcases List.mem_cons.1 h with h | h
    · exact h1 h
    · rw [List.all_eq_true.1 (dec_digs _).2.1 _ h] at h2;cases h2
  · rw [List.all_eq_true.1 (dec_digs _).2.1 _ h] at h2;cases h2
def numsV (f : List UInt8 → Option Int) : List (List UInt8) → Option (List Int)
  | []=>some []
  | w :: r=>match f w,numsV f r with
    | some n,some l=>some (n :: l)
    | _,_=>none
theorem numsV_snoc {f:List UInt8→Option Int}{w:List UInt8}:∀ {ws:List (List UInt8)},numsV f (ws++[w])=(match numsV f ws,f w with | some l,some n=>some (l++[n]) | _,_=>none)
  | []=>by simp only [List.nil_append,numsV];cases f w<;>rfl
  | x :: ws=>by
    rw [List.cons_append,numsV,numsV_snoc,numsV]
    cases f x<;>cases numsV f ws<;>cases f w<;>rfl
theorem numsV_none {f:List UInt8→Option Int}{ws:List (List UInt8)}{w:List UInt8}(h:w∈ws) (hw:f w=none):numsV f ws=none:=by
  induction ws with
  | nil=>cases h
  | cons x ws ih =>
    rw [numsV]
    rcases List.mem_cons.1 h with rfl | h
    · rw [hw]
    · rw [ih h];cases f x<;>rfl
theorem numsV_itoa {f:List UInt8→Option Int}(hf:∀w n,f w=some n→w=Lib.itoa n):∀ {ws:List (List UInt8)}{l:List Int},numsV f ws=some l→ws=l.map Lib.itoa
  | [],l,h=>by simp [numsV] at h;simp [←h]
  | x :: ws, l, h => by
    rw [numsV] at h
    split at h
    · rename_i n l' h1 h2
      simp at h;rw [←h,List.map_cons,←numsV_itoa hf h2,←hf _ _ h1]
    · cases h
theorem numsV_map {f:List UInt8→Option Int}:∀ {l:List Int},(∀n∈l,f (Lib.itoa n)=some n)→numsV f (l.map Lib.itoa)=some l
  | [],_=>rfl
  | n :: l,h=>by rw [List.map_cons,numsV,h n (by simp),numsV_map fun x hx=>h x (List.mem_cons_of_mem _ hx)]
/-! ### rows -/
def numB:List Int→List UInt8
  | []=>[]
  | n :: l=>32 :: (Lib.itoa n++numB l)
def flatRows (rows:List (List UInt8)):List UInt8:=rows.flatMap (· ++ [10])
theorem unspl_rows {last:List UInt8}:∀ {rows:List (List UInt8)},unspl 10 (rows++[last])=flatRows rows++last
  | []=>by simp [unspl,flatRows]
  | r :: rows=>by
    rw [List.cons_append,unspl_cons (by simp),unspl_rows]
    simp [flatRows]
theorem spl_rows {rows:List (List UInt8)}(h:∀r∈rows,(10:UInt8) ∉ r):spl 10 [] (flatRows rows)=rows++[[]]:=by
  have h1:=unspl_rows (rows:=rows) (last:=[])
  rw [List.append_nil] at h1
  rw [←h1]
  refine spl_unspl (by simp) fun p hp=>?_
  rcases List.mem_append.1 hp with hp | hp
  · exact h p hp
  · simp at hp;subst hp;simp
theorem rows_of (text:List UInt8):text=flatRows (spl 10 [] text).dropLast++(spl 10 [] text).getLast spl_ne:=by
  have h:=unspl_spl (c:=10) (l:=text) (cur:=[])
  rw [←List.dropLast_concat_getLast (spl_ne (c:=10) (l:=text) (cur:=[])),unspl_rows] at h
  simpa using h.symm
theorem unspl_nums (w:List UInt8):∀l:List Int,unspl 32 (w :: l.map Lib.itoa)=w++numB l
  | []=>by simp [unspl,numB]
  | n :: l=>by
    have h:=unspl_nums (Lib.itoa n) l
    rw [List.map_cons,unspl_cons (by simp),h];rfl
def parseF (f:List UInt8→Option Int) (row:List UInt8):Option (List UInt8×List Int):=match spl 32 [] row with
  | []=>none
  | w :: ws=>(numsV f ws).map fun l=>(w,l)
theorem parseF_row {f:List UInt8→Option Int}{w:List UInt8}{l:List Int}(hw:(32:UInt8) ∉ w) (hl:∀n∈l,f (Lib.itoa n)=some n):parseF f (w++numB l)=some (w,l):=by
  have hs:spl 32 [] (w++numB l)=w :: l.map Lib.itoa:=by
    rw [←unspl_nums]
    refine spl_unspl (by simp) fun p hp=>?_
    rcases List.mem_cons.1 hp with rfl | hp
    · exact hw
    · obtain ⟨n,_,rfl⟩:=List.mem_map.1 hp
      exact itoa_pure (by decide) (by decide)
  unfold parseF
  rw [hs]
  simp only
  rw [numsV_map hl];rfl
theorem parseF_inv {f:List UInt8→Option Int}(hf:∀w n,f w=some n→w=Lib.itoa n){row w:List UInt8}{l:List Int}(h:parseF f row=some (w,l)):row=w++numB l:=by
  unfold parseF at h
  split at h
  · cases h
  · rename_i w' ws hs
    obtain ⟨l',h1,h2⟩:=Option.map_eq_some_iff.1 h
    cases h2
    have:=numsV_itoa hf h1
    rw [←unspl_nums,←this,←hs,unspl_spl];rfl
theorem numU_itoa {k:Nat}(w:List UInt8) (n:Int) (h:numU k w=some n):w=Lib.itoa n:=(numU_iff.1 h).2.1
theorem numB_pure {c:UInt8}(h1:c≠45) (h2:isDig c=false) (h3:c≠32):∀ {l:List Int},c ∉ numB l
  | []=>by simp [numB]
  | n :: l=>by
    simp only [numB,List.mem_cons,List.mem_append,not_or]
    exact ⟨h3,itoa_pure h1 h2,numB_pure h1 h2 h3⟩
def runF {σ : Type} (step : σ → List UInt8 → Option σ) : List (List UInt8) → Nat → σ → σ ⊕ Nat
  | [],_,s=>.inl s
  | r :: rs,i,s=>match step s r with
    | none=>.inr (i+1)
    | some s'=>runF step rs (i+1) s'
theorem runF_next {σ:Type}{step:σ→List UInt8→Option σ}{rows:List (List UInt8)}{i:Nat}{s s' : σ}(hi:i<rows.length) (h:step s rows[i]=some s'):runF step (rows.drop i) i s=runF step (rows.drop (i+1)) (i+1) s':=by
  rw [List.drop_eq_getElem_cons hi,runF,h]
theorem runF_bad {σ:Type}{step:σ→List UInt8→Option σ}{rows:List (List UInt8)}{i:Nat}{s:σ}(hi:i<rows.length) (h:step s rows[i]=none):runF step (rows.drop i) i s = .inr (i+1):=by
  rw [List.drop_eq_getElem_cons hi,runF,h]
theorem runF_done {σ:Type}{step:σ→List UInt8→Option σ}{rows:List (List UInt8)}{i:Nat}{s:σ}(hi:rows.length≤i):runF step (rows.drop i) i s = .inl s:=by
  rw [List.drop_eq_nil_of_le hi,runF]
theorem runF_app {σ:Type}{step:σ→List UInt8→Option σ}:∀ {a b:List (List UInt8)}{i:Nat}{s s' : σ},runF step a i s = .inl s'→runF step (a++b) i s=runF step b (i+a.length) s'
  | [],b,i,s,s',h=>by simp [runF] at h;subst h;rfl
  | r :: a, b, i, s, s', h => by
    rw [runF] at h
    rw [List.cons_append,runF]
    split at h
    · cases h
    · rename_i s2 h2
      rw [runF_app h,List.length_cons]
      congr 1;omega
theorem runF_inv {σ:Type}{step:σ→List UInt8→Option σ}{J:List (List UInt8)→σ→Prop}(hstep:∀done s r s',J done s→step s r=some s'→J (done++[r]) s'):∀ {rows done:List (List UInt8)}{i:Nat}{s s' : σ},J done s→runF step rows i s = .inl s'→J (done++rows) s'
  | [],done,i,s,s',hj,h=>by simp [runF] at h;subst h;simpa using hj
  | r :: rs, done, i, s, s', hj, h => by
    rw [runF] at h
    split at h
    · cases h
    · rename_i s2 h2
      have:=runF_inv hstep (hstep _ _ _ _ hj h2) h
      simpa using this
end Go.Sim
