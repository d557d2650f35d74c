/- Seals: the reference's search finds the program's plan. -/
import Derived.Test.YtojjfnhjmfokhaaQg
set_option linter.all false
set_option linter.unusedVariables false
set_option linter.unusedSimpArgs false
set_option linter.unusedSectionVars false
namespace Go.Sim
open Go.Proofs
def laterB:List Tst→List Tst→Bool
  | x :: xs,y :: ys=>if x=y then laterB xs ys else (decide (y.day<x.day)||(decide (x.day=y.day)&&decide (y.sc<x.sc)))
  | _,_=>false
def pickR (best x : Option (List Tst)) : Option (List Tst) := match x with
  | none=>best
  | some x=>match best with
    | none=>some x
    | some y=>if x.length<y.length∨(x.length=y.length∧laterB x y=true) then some x else some y
def rsetK (s : Sls) (day : Int) (left : List Int) (done : List Tst) (set : Nat) : Nat → List Tst × List Int × Bool
  | 0=>(done,left,true)
  | i+1 =>
    let (t,v,b):=rsetK s day left done set i
    let t':=if set.testBit i then t++[⟨day,(i:Int)⟩] else t
    let v':=if set.testBit i then v.set i (max (nth v i) (day+nth s.eve i)) else v
    (t',v',b&&decide (day≤nth v' i))
def rallK (s : Sls) (next : List Int → List Tst → Option (List Tst)) (day : Int) (left : List Int) (done : List Tst) : Nat → Option (List Tst)
  | 0=>none
  | j+1 =>
    let (t,v,b):=rsetK s day left done j left.length
    if b=false∨s.most<(t.length:Int)-done.length then rallK s next day left done j else pickR (rallK s next day left done j) (next v t)
def rplanF (s:Sls):Nat→Int→List Int→List Tst→Option (List Tst)
  | 0,_,_,done=>some done
  | k+1,day,left,done=>rallK s (rplanF s k (day+1)) day left done (2 ^ left.length)
def rplanP (s:Sls):Option (List Tst):=rplanF s (s.days+1).toNat 0 s.lef []
def rplanL (s:Sls):List Tst:=if seaC s=0 then (rplanP s).getD [] else []
def rplanE (s:Sls):Int:=if seaC s≠0 then seaC s else if rplanP s=none then 3 else 0
def optP (done:List Tst) (p:Pln):Option (List Tst):=if p.2=true then some (done++p.1) else none
theorem bestF_snoc (p:Pln):∀(l:List Pln) (o:Pln),bestF o (l++[p])=if betterP p (bestF o l)=true then p else bestF o l
  | [],o=>rfl
  | x :: xs,o=>bestF_snoc p xs _
theorem bestP_snoc (l:List Pln) (p:Pln):bestP (l++[p])=if l=[] then p else if betterP p (bestP l)=true then p else bestP l:=by
  cases l with
  | nil=>rfl
  | cons x xs =>
    show bestF x (xs++[p])=_
    rw [bestF_snoc,if_neg (show ¬(x :: xs)=[] by simp)];rfl
theorem laterB_pre (a b:List Tst):∀d:List Tst,laterB (d++a) (d++b)=laterB a b
  | []=>rfl
  | x :: d=>by rw [List.cons_append,List.cons_append,laterB,if_pos rfl,laterB_pre a b d]
theorem cmpI_zero {a b:Int}:cmpI a b=0↔a=b:=by unfold cmpI;(repeat' split)<;>omega
theorem cmp1_zero {x y:Tst}:cmp1 x y=0↔x=y:=by
  unfold cmp1
  have h1:=@cmpI_zero x.day y.day
  have h2:=@cmpI_zero x.sc y.sc
  constructor
  · intro h
    split at h
    · contradiction
    · rename_i g
      have e1:=h1.1 (by omega)
      have e2:=h2.1 h
      cases x;cases y;simp_all
  · rintro rfl
    rw [if_neg (by simp [h1.2]),h2.2 rfl]
theorem cmp1_pos {x y:Tst}(h:x≠y):decide (0<cmp1 x y)=(decide (y.day<x.day)||(decide (x.day=y.day)&&decide (y.sc<x.sc))):=by
  rw [Bool.eq_iff_iff]
  simp only [decide_eq_true_eq,Bool.or_eq_true,Bool.and_eq_true]
  unfold cmp1 cmpI
  (repeat' split)<;>omega
theorem cmpT_later:∀ {a b:List Tst},a.length=b.length→decide (0<cmpT a b)=laterB a b
  | [],[],_=>rfl
  | x :: xs, y :: ys, h => by
    rw [cmpT,laterB]
    by_cases e:x=y
    · rw [if_pos e,if_neg (by rw [Classical.not_not];exact cmp1_zero.2 e)]
      exact cmpT_later (by simpa using h)
    · rw [if_neg e,if_pos (fun n=>e (cmp1_zero.1 n))]
      exact cmp1_pos e
  | [],_ :: _,h=>by simp at h
  | _ :: _,[],h=>by simp at h
theorem pick_best (done:List Tst) (p o:Pln) (h:o.2=true):optP done (if betterP p o=true then p else o)=pickR (optP done o) (optP done p):=by
  have eo:optP done o=some (done++o.1):=by unfold optP;rw [if_pos h]
  by_cases hp:p.2=true
  · have ep:optP done p=some (done++p.1):=by unfold optP;rw [if_pos hp]
    have eb:betterP p o=if p.1.length≠o.1.length then decide (p.1.length<o.1.length) else decide (0<cmpT p.1 o.1):=by
      unfold betterP;rw [if_neg];simp [hp,h]
    have er:pickR (some (done++o.1)) (some (done++p.1))=if (done++p.1).length<(done++o.1).length∨((done++p.1).length=(done++o.1).length∧laterB (done++p.1) (done++o.1)=true) then some (done++p.1) else some (done++o.1):=rfl
    rw [eb,eo,ep,er,List.length_append,List.length_append,laterB_pre]
    by_cases hl:p.1.length=o.1.length
    · rw [if_neg (Classical.not_not.2 hl),cmpT_later hl]
      by_cases hb:laterB p.1 o.1=true
      · rw [if_pos hb,if_pos (.inr ⟨by omega,hb⟩),ep]
      · rw [if_neg hb,if_neg (by rintro (h | ⟨_,h⟩);omega;exact hb h),eo]
    · rw [if_pos hl]
      by_cases hb:p.1.length<o.1.length
      · rw [if_pos (by simpa using hb),if_pos (.inl (by omega)),ep]
      · rw [if_neg (by simpa using hb),if_neg (by rintro (h | ⟨h,_⟩) <;> omega),eo]
  · have ep:optP done p=none:=by unfold optP;rw [if_neg hp]
    have eb:betterP p o=false:=by unfold betterP;rw [if_pos (.inl (by simpa using hp))];simpa using hp
    rw [eb,ep,if_neg (by decide)];rfl
theorem pick_all (done:List Tst) (p:Pln) (l:List Pln):optP done (bestP (l++[p]))=pickR (optP done (bestP l)) (optP done p):=by
  rw [bestP_snoc]
  by_cases hl:l=[]
  · rw [if_pos hl,hl]
    show _=pickR none _
    unfold optP
    by_cases hp:p.2=true
    · rw [if_pos hp];rfl
    · rw [if_neg hp];rfl
  · rw [if_neg hl]
    by_cases ho:(bestP l).2=true
    · exact pick_best done p _ ho
    · have ho2:(bestP l).2=false:=by simpa using ho
      have e:optP done (bestP l)=none:=by unfold optP;rw [if_neg ho]
      rw [e]
      unfold betterP
      rw [ho2]
      simp only [or_true,if_true]
      by_cases hp:p.2=true
      · rw [if_pos hp];unfold optP;rw [if_pos hp];rfl
      · rw [if_neg hp,e];unfold optP;rw [if_neg hp];rfl
structure Clip (s:Sls) (u left:List Int):Prop where
  l:left.length=s.lef.length
  ul:s.lef.length≤u.length
  at_:∀i,i<s.lef.length→nth u i=min (nth left i) s.days
theorem nth_set' {l:List Int}{i k:Nat}{x:Int}(hi:i<l.length):nth (l.set i x) k=if k=i then x else nth l k:=by
  unfold nth
  rw [List.getD_eq_getElem?_getD,List.getD_eq_getElem?_getD,List.getElem?_set]
  by_cases h:i=k
  · subst h;rw [if_pos rfl,if_pos hi,if_pos rfl];rfl
  · rw [if_neg h,if_neg (fun n=>h n.symm)]
theorem dec_min {day days x y:Int}(h:y=min x days) (hd:day≤days):decide (day≤x)=decide (day≤y):=by
  rw [Bool.eq_iff_iff,decide_eq_true_eq,decide_eq_true_eq]
  omega
theorem setS_same {s : Sls} (he : s.eve.length = s.lef.length) {day : Int} (hd : day ≤ s.days) {u left : List Int} (hc : Clip s u left) (done : List Tst) (set : Nat) : ∀ i, i ≤ s.lef.length →
    (rsetK s day left done set i).1=done++(setS s day u set i).1∧Clip s (setS s day u set i).2.1 (rsetK s day left done set i).2.1∧(rsetK s day left done set i).2.2=(setS s day u set i).2.2
  | 0,_=>⟨(List.append_nil _).symm,hc,rfl⟩
  | i + 1, hi => by
    obtain ⟨h1,h2,h3⟩:=setS_same he hd hc done set i (by omega)
    have key:Clip s (if set.testBit i=true then (setS s day u set i).2.1.set i (min s.days (max (nth (setS s day u set i).2.1 i) (day+nth s.eve i))) else (setS s day u set i).2.1)
        (if set.testBit i=true then (rsetK s day left done set i).2.1.set i (max (nth (rsetK s day left done set i).2.1 i) (day+nth s.eve i)) else (rsetK s day left done set i).2.1):=by
      by_cases hb:set.testBit i=true
      · rw [if_pos hb,if_pos hb]
        refine ⟨by rw [List.length_set];exact h2.l,by rw [List.length_set];exact h2.ul,fun k hk=>?_⟩
        rw [nth_set' (by have:=h2.ul;omega),nth_set' (by have:=h2.l;omega)]
        by_cases hki:k=i
        · rw [if_pos hki,if_pos hki,h2.at_ i (by omega)];omega
        · rw [if_neg hki,if_neg hki];exact h2.at_ k hk
      · rw [if_neg hb,if_neg hb];exact h2
    refine ⟨?_,key, ?_⟩
    · simp only [rsetK,setS]
      split
      · rw [h1,List.append_assoc]
      · exact h1
    · simp only [rsetK,setS]
      rw [h3]
      congr 1
      exact dec_min (key.at_ i (by omega)) hd
theorem allK_same {s:Sls}(he:s.eve.length=s.lef.length){day:Int}(hd:day≤s.days){u left:List Int}(hc:Clip s u left) (done:List Tst){next:List Int→Pln}{rnext:List Int→List Tst→Option (List Tst)}
    (hn:∀v w t,Clip s v w→rnext w (done++t)=optP (done++t) (next v)):∀j,rallK s rnext day left done j=optP done (bestP (allK s next day u j))
  | 0=>rfl
  | j + 1 => by
    have ih:=allK_same he hd hc done hn j
    obtain ⟨h1,h2,h3⟩:=setS_same he hd hc done j s.lef.length (Nat.le_refl _)
    simp only [rallK,allK]
    rw [hc.l,he,h3,h1,ih]
    rw [List.length_append,show (((done.length+(setS s day u j s.lef.length).1.length:Nat):Int)-done.length)=((setS s day u j s.lef.length).1.length:Int) by omega]
    split
    · rfl
    · rw [pick_all,hn _ _ _ h2]
      congr 1
      unfold optP
      simp only
      split
      · rw [List.append_assoc]
      · rfl
theorem planF_same {s:Sls}(he:s.eve.length=s.lef.length):∀(k:Nat) (day:Int) (u left:List Int) (done:List Tst),day+k=s.days+1→Clip s u left→rplanF s k day left done=optP done (planF s k day u)
  | 0,day,u,left,done,hk,hc=>by show some done=_;unfold optP;simp [planF]
  | k+1,day,u,left,done,hk,hc=>by
    rw [rplanF,planF,hc.l]
    exact allK_same he (by omega) hc done (fun v w t h=>planF_same he k (day+1) v w (done++t) (by omega) h) _
theorem planP_same {s:Sls}(hv:ValidS s):rplanP s=optP [] (planP s):=by
  refine planF_same hv.le _ 0 _ _ [] (by have:=hv.days;omega) ⟨rfl,by unfold left0;simpa using hv.l4,fun i hi=>?_⟩
  unfold left0
  rw [nth_get (by simp;have:=hv.l4;omega)]
  simp [hi]
theorem planE_same (s:Sls):rplanE s=planE s:=by
  unfold rplanE planE
  by_cases h:seaC s=0
  · rw [if_neg (show ¬(seaC s≠0) from fun n=>n h),if_neg (show ¬(seaC s≠0) from fun n=>n h),planP_same (seaC_zero.1 h)]
    unfold optP
    cases (planP s).2<;>simp
  · rw [if_pos h,if_pos h]
theorem planL_same (s:Sls):rplanL s=planL s:=by
  unfold rplanL planL
  by_cases h:seaC s=0
  · rw [if_pos h,planP_same (seaC_zero.1 h)]
    unfold optP
    by_cases g:(planP s).2=true
    · rw [if_pos g,if_pos ⟨h,g⟩];simp
    · rw [if_neg g,if_neg (fun n=>g n.2)];rfl
  · rw [if_neg h,if_neg (fun n=>h n.1)]
end Go.Sim
