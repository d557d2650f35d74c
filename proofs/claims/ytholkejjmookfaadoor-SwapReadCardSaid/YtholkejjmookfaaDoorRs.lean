/- A ledger that is read, in plain Lean. -/
import Derived.Test.YtholkejjmookfaaDoorIh
import Derived.Test.YtholkejjmookfaaDoorRn
set_option linter.all false
namespace Go.Sim
open Go W6
structure S6 where
  ow:List Turn
  done:List (List Turn)
  cur:List Turn
  ended:Bool
def S6.lk (s:S6):List (List Turn):=if s.ow=[] then [] else s.done++[s.cur]
abbrev trdL:List UInt8:=[116,114,97,100,101,114]
abbrev likL:List UInt8:=[108,105,107,101]
abbrev endL:List UInt8:=[101,110,100]
def parse6 (row:List UInt8):Option (List UInt8×List Int):=parseF (numU 3) row
def step6 (s : S6) (row : List UInt8) : Option S6 := match parse6 row with
  | none=>none
  | some (w,l)=>if s.ended=true then none
    else if w=trdL∧l.length=2 then some ⟨s.ow++[(l.getD 0 0,l.getD 1 0)],if s.ow=[] then [] else s.done++[s.cur],[],false⟩
    else if w=likL∧l.length=2∧s.ow≠[] then some ⟨s.ow,s.done,s.cur++[(l.getD 0 0,l.getD 1 0)],false⟩
    else if w=endL∧l=[(s.ow.length:Int)] then some ⟨s.ow,s.done,s.cur,true⟩
    else none
def init6:S6:=⟨[],[],[],false⟩
def run6 (text:List UInt8):S6 ⊕ Nat:=runF step6 (spl 10 [] text).dropLast 0 init6
abbrev R6:=List Turn×List (List Turn)×Int×Int
def fin6 (text:List UInt8) (s:S6):R6:=if s.ended=false∨(spl 10 [] text).getLast?≠some [] then ([],[],((spl 10 [] text).length:Int),2) else if checkT s.ow s.lk≠0 then ([],[],0,checkT s.ow s.lk) else (s.ow,s.lk,0,0)
def rd6 (text:List UInt8):R6:=if 3000<text.length then ([],[],0,10) else match run6 text with
  | .inr i=>([],[],(i:Int),2)
  | .inl s=>fin6 text s
/-! ### what is read is written as it was -/
theorem tL_snoc (o:Turn) (c:List Turn) (x:Turn):tL (o,c++[x])=tL (o,c)++kL x:=by
  simp [tL]
structure Jw (dn:List (List UInt8)) (s:S6):Prop where
  txt:flatRows dn=(s.ow.zip s.lk).flatMap tL++(if s.ended=true then lineB endW [(s.ow.length:Int)] else [])
  len:s.ow≠[]→s.done.length+1=s.ow.length
theorem step6_inv {dn : List (List UInt8)} {s s' : S6} {r : List UInt8} (hj : Jw dn s) (h : step6 s r = some s') : Jw (dn ++ [r]) s' := by
  unfold step6 at h
  split at h
  · cases h
  · rename_i w l hp
    have hr:=parseF_inv (fun w n h=>numU_itoa w n h) hp
    have hfl:flatRows (dn++[r])=flatRows dn++(w++(numB l++[10])):=by simp [flatRows,hr]
    split at h
    · cases h
    · rename_i he
      have he:s.ended=false:=by simpa using he
      have htx:=hj.txt
      rw [he] at htx
      simp only [Bool.false_eq_true,if_false,List.append_nil] at htx
      split at h
      · rename_i hc
        obtain ⟨rfl,h2⟩:=hc
        obtain ⟨a,b,rfl⟩:∃a b,l=[a,b]:=by
          match l,h2 with
          | [a,b],_=>exact ⟨a,b,rfl⟩
        cases h
        by_cases h0:s.ow=[]
        · refine ⟨?_, ?_⟩
          · rw [hfl,htx]
            simp [S6.lk,h0,tL,lineB,trdW]
          · simp [h0]
        · refine ⟨?_, ?_⟩
          · rw [hfl,htx]
            have e1:s.lk=s.done++[s.cur]:=by unfold S6.lk;rw [if_neg h0]
            have e2:S6.lk ⟨s.ow++[(a,b)],s.done++[s.cur],[],false⟩=(s.done++[s.cur])++[[]]:=by unfold S6.lk;rw [if_neg (by simp)]
            have hl:=hj.len h0
            simp only [if_neg h0]
            simp only [List.getD_cons_zero,List.getD_cons_succ,e1,e2]
            rw [List.zip_append (by simp [hl]),List.flatMap_append]
            simp [tL,lineB,trdW]
          · intro _;simp [h0,hj.len h0]
      · split at h
        · rename_i hc
          obtain ⟨rfl,h2,h0⟩:=hc
          obtain ⟨a,b,rfl⟩:∃a b,l=[a,b]:=by
            match l,h2 with
            | [a,b],_=>exact ⟨a,b,rfl⟩
          cases h
          have hl:=hj.len h0
          refine ⟨?_,fun _=>hl⟩
          rw [hfl,htx]
          obtain ⟨ow0,o,ho⟩:∃ow0 o,s.ow=ow0++[o]:=⟨_,_,(List.dropLast_concat_getLast h0).symm⟩
          have e1:s.lk=s.done++[s.cur]:=by unfold S6.lk;rw [if_neg h0]
          have e2:S6.lk ⟨s.ow,s.done,s.cur++[(a,b)],false⟩=s.done++[s.cur++[(a,b)]]:=by unfold S6.lk;rw [if_neg h0]
          have hl2:ow0.length=s.done.length:=by rw [ho] at hl;simp at hl;omega
          simp only [List.getD_cons_zero,List.getD_cons_succ]
          rw [ho] at e2
          simp only [e1,e2,ho]
          rw [List.zip_append hl2,List.zip_append hl2,List.flatMap_append,List.flatMap_append]
          simp only [List.zip_cons_cons,List.zip_nil_right,List.flatMap_cons,List.flatMap_nil,List.append_nil,tL_snoc]
          simp [kL,lineB,likW]
        · split at h
          · rename_i hc
            obtain ⟨rfl,rfl⟩:=hc
            cases h
            refine ⟨?_,hj.len⟩
            rw [hfl,htx]
            show _=(s.ow.zip s.lk).flatMap tL++_
            simp [lineB,endW]
          · cases h
theorem run6_inv {text:List UInt8}{s:S6}(h:run6 text = .inl s):Jw (spl 10 [] text).dropLast s:=by
  have:=runF_inv (J:=Jw) (fun dn s r s' hj h=>step6_inv hj h) (rows:=(spl 10 [] text).dropLast) (done:=[]) (i:=0) (s:=init6) ⟨by simp [flatRows,init6],fun h=>absurd rfl h⟩ h
  simpa using this
theorem rd6_err {text : List UInt8} (h : (rd6 text).2.2.2 ≠ 0) : (rd6 text).1 = [] ∧ (rd6 text).2.1 = [] := by
  unfold rd6 fin6 at h ⊢
  split
  · exact ⟨rfl,rfl⟩
  · split
    · exact ⟨rfl,rfl⟩
    · rename_i s hs
      rename_i hh _
      rw [if_neg (by assumption),hs] at h
      simp only at h ⊢
      split
      · exact ⟨rfl,rfl⟩
      · split
        · exact ⟨rfl,rfl⟩
        · rename_i h1 h2
          rw [if_neg h1,if_neg h2] at h
          exact absurd rfl h
theorem rd6_ok {text : List UInt8} (h : (rd6 text).2.2.2 = 0) : checkT (rd6 text).1 (rd6 text).2.1 = 0 ∧ wrT (rd6 text).1 (rd6 text).2.1 = text ∧ (rd6 text).2.2.1 = 0 := by
  unfold rd6 at h ⊢
  split
  · rename_i hh;rw [if_pos hh] at h;cases h
  · rename_i hh
    rw [if_neg hh] at h
    split
    · rename_i i hi;rw [hi] at h;cases h
    · rename_i s hs
      rw [hs] at h
      simp only at h ⊢
      unfold fin6 at h ⊢
      split
      · rename_i h1;rw [if_pos h1] at h;cases h
      · rename_i h1
        rw [if_neg h1] at h
        split
        · rename_i h2;rw [if_pos h2] at h;exact absurd h h2
        · rename_i h2
          have h2:checkT s.ow s.lk=0:=Decidable.not_not.1 h2
          refine ⟨h2, ?_,rfl⟩
          have hj:=run6_inv hs
          have he:s.ended=true:=by
            cases hx:s.ended with
            | true=>rfl
            | false=>exact absurd (.inl hx) h1
          have hlast:(spl 10 [] text).getLast?=some []:=Decidable.not_not.1 fun k=>h1 (.inr k)
          have ht:=rows_of text
          have hl2:(spl 10 [] text).getLast spl_ne=[]:=by
            rw [List.getLast?_eq_some_getLast spl_ne] at hlast
            exact Option.some.inj hlast
          rw [hl2,List.append_nil,hj.txt,he,if_pos rfl] at ht
          exact ht.symm
/-! ### what is written is read -/
abbrev trRow (x:Turn):List UInt8:=trdL++numB [x.1,x.2]
abbrev lkRow (x:Turn):List UInt8:=likL++numB [x.1,x.2]
def rowsT (z:List (Turn×List Turn)):List (List UInt8):=z.flatMap fun p=>trRow p.1 :: p.2.map lkRow
def N3 (x:Turn):Prop:=numU 3 (Lib.itoa x.1)=some x.1∧numU 3 (Lib.itoa x.2)=some x.2
theorem parse_two {w:List UInt8}{x:Turn}(hw:(32:UInt8) ∉ w) (hx:N3 x):parse6 (w++numB [x.1,x.2])=some (w,[x.1,x.2]):=
  parseF_row hw fun n hn=>by
    simp only [List.mem_cons,List.not_mem_nil,or_false] at hn
    rcases hn with rfl | rfl
    · exact hx.1
    · exact hx.2
theorem run_likes {o:List Turn}{d:List (List Turn)}(ho:o≠[]):∀ {ks c:List Turn}{i:Nat},(∀x∈ks,N3 x)→runF step6 (ks.map lkRow) i ⟨o,d,c,false⟩ = .inl ⟨o,d,c++ks,false⟩
  | [],c,i,_=>by simp [runF]
  | x :: ks, c, i, h => by
    have hp:=parse_two (w:=likL) (by decide) (h x (by simp))
    have hs:step6 ⟨o,d,c,false⟩ (lkRow x)=some ⟨o,d,c++[x],false⟩:=by
      unfold step6
      rw [hp]
      simp [ho]
    rw [List.map_cons,runF,hs]
    simp only
    rw [run_likes ho fun y hy=>h y (List.mem_cons_of_mem _ hy)]
    simp
theorem run_traders:∀ {z:List (Turn×List Turn)}{s:S6}{i:Nat},s.ended=false→(∀p∈z,N3 p.1∧∀x∈p.2,N3 x)→∃s',runF step6 (rowsT z) i s = .inl s'∧s'.ow=s.ow++z.map (·.1)∧s'.lk=s.lk++z.map (·.2)∧s'.ended=false
  | [],s,i,he,_=>⟨s,rfl,by simp,by simp,he⟩
  | p :: z, s, i, he, h => by
    obtain ⟨hp1,hp2⟩:=h p (by simp)
    have hp:=parse_two (w:=trdL) (by decide) hp1
    obtain ⟨s1,hs1⟩:∃s1:S6,s1=⟨s.ow++[p.1],if s.ow=[] then [] else s.done++[s.cur],[],false⟩:=⟨_,rfl⟩
    have hs:step6 s (trRow p.1)=some s1:=by
      unfold step6
      rw [hp,hs1]
      simp [he]
    have hl:=run_likes (o:=s1.ow) (d:=s1.done) (c:=s1.cur) (i:=i+1) (by rw [hs1];simp) hp2
    have e1:(⟨s1.ow,s1.done,s1.cur,false⟩:S6)=s1:=by rw [hs1]
    rw [e1] at hl
    have hh:runF step6 (trRow p.1 :: p.2.map lkRow) i s = .inl ⟨s1.ow,s1.done,s1.cur++p.2,false⟩:=by
      rw [runF,hs];exact hl
    obtain ⟨s',k1,k2,k3,k4⟩:=run_traders (z:=z) (s:=⟨s1.ow,s1.done,s1.cur++p.2,false⟩) (i:=i+(trRow p.1 :: p.2.map lkRow).length) rfl fun q hq=>h q (List.mem_cons_of_mem _ hq)
    refine ⟨s', ?_, ?_, ?_,k4⟩
    · show runF step6 ((trRow p.1 :: p.2.map lkRow)++rowsT z) i s=_
      rw [runF_app hh,k1]
    · rw [k2,hs1];simp
    · rw [k3,hs1]
      unfold S6.lk
      by_cases h0:s.ow=[]
      · simp [h0]
      · simp [h0]
theorem rowsT_flat:∀z:List (Turn×List Turn),flatRows (rowsT z)=z.flatMap tL
  | []=>rfl
  | p :: z => by
    have h:=rowsT_flat z
    have e:rowsT (p :: z)=(trRow p.1 :: p.2.map lkRow)++rowsT z:=rfl
    rw [e,flatRows,List.flatMap_append,List.flatMap_cons,List.flatMap_cons]
    unfold flatRows at h
    rw [h]
    congr 1
    simp only [tL,lineB]
    have:(p.2.map lkRow).flatMap (· ++ [10])=p.2.flatMap kL:=by
      rw [List.flatMap_map]
      congr 1
    rw [this];simp [trdW]
theorem rowsT_pure {z:List (Turn×List Turn)}:∀r∈rowsT z,(10:UInt8) ∉ r:=by
  intro r hr
  obtain ⟨p,_,hp⟩:=List.mem_flatMap.1 hr
  rcases List.mem_cons.1 hp with rfl | hp
  · simp only [List.mem_append,not_or];exact ⟨by decide,numB_pure (by decide) (by decide) (by decide)⟩
  · obtain ⟨x,_,rfl⟩:=List.mem_map.1 hp
    simp only [List.mem_append,not_or];exact ⟨by decide,numB_pure (by decide) (by decide) (by decide)⟩
theorem num3 {n:Int}(h0:0≤n) (h1:n≤9):numU 3 (Lib.itoa n)=some n:=by
  refine numU_iff.2 ⟨h0,rfl, ?_⟩
  have:n=0∨n=1∨n=2∨n=3∨n=4∨n=5∨n=6∨n=7∨n=8∨n=9:=by omega
  rcases this with rfl | rfl | rfl | rfl | rfl | rfl | rfl | rfl | rfl | rfl <;> simp [Lib.itoa,Lib.decDigits]
theorem rd6_wr {ow:List Turn}{lk:List (List Turn)}(hv:ValidT ow lk) (h9:∀x,(x∈ow∨∃l∈lk,x∈l)→(0≤x.1∧x.1≤9)∧(0≤x.2∧x.2≤9)) (hlen:(wrT ow lk).length≤3000):rd6 (wrT ow lk)=(ow,lk,0,0):=by
  have hz:∀p∈ow.zip lk,N3 p.1∧∀x∈p.2,N3 x:=fun p hp=>by
    obtain ⟨q1,q2⟩:=List.of_mem_zip (a:=p.1) (b:=p.2) hp
    have g1:=h9 p.1 (.inl q1)
    exact ⟨⟨num3 g1.1.1 g1.1.2,num3 g1.2.1 g1.2.2⟩,fun x hx=>by
      have g2:=h9 x (.inr ⟨p.2,q2,hx⟩)
      exact ⟨num3 g2.1.1 g2.1.2,num3 g2.2.1 g2.2.2⟩⟩
  obtain ⟨s,k1,k2,k3,k4⟩:=run_traders (z:=ow.zip lk) (s:=init6) (i:=0) rfl hz
  have e1:s.ow=ow:=by rw [k2];simp [init6,List.map_fst_zip,hv.same]
  have e2:s.lk=lk:=by rw [k3];simp [init6,S6.lk,List.map_snd_zip,hv.same]
  obtain ⟨rs,hrs⟩:∃rs,rs=rowsT (ow.zip lk)++[endL++numB [(ow.length:Int)]]:=⟨_,rfl⟩
  have hw:wrT ow lk=flatRows rs:=by
    rw [hrs,flatRows,List.flatMap_append]
    have:=rowsT_flat (ow.zip lk)
    unfold flatRows at this
    rw [this,wrT]
    simp [lineB,endW]
  have hsp:spl 10 [] (wrT ow lk)=rs++[[]]:=by
    rw [hw]
    refine spl_rows fun r hr=>?_
    rw [hrs] at hr
    rcases List.mem_append.1 hr with hr | hr
    · exact rowsT_pure r hr
    · simp only [List.mem_singleton] at hr
      subst hr
      simp only [List.mem_append,not_or];exact ⟨by decide,numB_pure (by decide) (by decide) (by decide)⟩
  have h8:=hv.most
  have hpe:parse6 (endL++numB [(ow.length:Int)])=some (endL,[(ow.length:Int)]):=parseF_row (by decide) fun n hn=>by
    simp only [List.mem_singleton] at hn
    subst hn
    exact num3 (by omega) (by omega)
  have hse:step6 s (endL++numB [(ow.length:Int)])=some ⟨s.ow,s.done,s.cur,true⟩:=by
    unfold step6
    rw [hpe]
    simp [k4,e1]
  have hrun:run6 (wrT ow lk) = .inl ⟨s.ow,s.done,s.cur,true⟩:=by
    unfold run6
    rw [hsp,List.dropLast_concat,hrs,runF_app k1,runF,hse]
    simp only [runF]
  have elk:S6.lk ⟨s.ow,s.done,s.cur,true⟩=lk:=e2
  unfold rd6
  rw [if_neg (by omega),hrun]
  simp only
  unfold fin6
  rw [if_neg (by rw [hsp];simp),elk]
  simp only [e1]
  rw [if_neg (by rw [checkT_zero.2 hv];simp)]
end Go.Sim
