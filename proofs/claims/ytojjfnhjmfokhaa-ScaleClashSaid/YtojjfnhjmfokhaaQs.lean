/- Benches: the fewest results that contradict each other, alone. -/
import Derived.Test.YtojjfnhjmfokhaaQk
import Derived.Test.YtojjfnhjmfokhaaQp
set_option linter.all false
set_option linter.unusedVariables false
set_option linter.unusedSimpArgs false
set_option linter.unusedSectionVars false
namespace Go.Sim
open Go.Proofs
theorem intL_mem {l:List Nat}{x:Int}:x∈intL l↔∃i:Nat,i∈l∧(i:Int)=x:=by
  unfold intL;rw [List.mem_map];rfl
theorem intL_cast {l:List Nat}{i:Nat}:(i:Int)∈intL l↔i∈l:=by
  rw [intL_mem]
  constructor
  · rintro ⟨j,hj,e⟩
    have:j=i:=by omega
    exact this▸hj
  · intro h;exact ⟨i,h,rfl⟩
theorem intL_lt {b:Ben}{l:List Nat}(h:∀i∈l,i<resN b):∀x∈intL l,0≤x∧x<b.wei.length+b.tri.length:=fun x hx=>by
  obtain ⟨i,hi,rfl⟩:=intL_mem.1 hx
  have:i<b.wei.length+b.tri.length:=h i hi
  omega
theorem intL_inj {l m:List Nat}(h:intL l=intL m):l=m:=by
  unfold intL at h
  exact List.map_inj_right (fun x y e=>Int.ofNat.inj e) |>.1 h
theorem only_bad {b : Ben} {l : List Nat} (h : ∀ i ∈ l, i < resN b) (hv : ValidB (onlyB b (intL l))) : knownT (onlyB b (intL l)) = none ↔ BadL b l := by
  rw [known_none hv]
  have hl:=intL_lt h
  have e:∀x,Fits (onlyB b (intL l)) x↔Base b x∧∀i∈l,FctHolds x (nth (resF b) i):=fun x=>by
    constructor
    · intro hf
      obtain ⟨h1,h2,h3⟩:=wth_fits.1 hf
      refine ⟨h1,fun i hi=>?_⟩
      have hi2:=h i hi
      by_cases c:i<b.wei.length
      · rw [resF_w c]
        exact h2 _ ((selWei_mem fun x hx=>(hl x hx).1).2 ⟨i,intL_cast.2 hi,c,rfl⟩)
      · obtain ⟨j,rfl⟩:∃j,i=b.wei.length+j:=⟨i-b.wei.length,by omega⟩
        have hj:j<b.tri.length:=by have:b.wei.length+j<b.wei.length+b.tri.length:=hi2;omega
        rw [resF_t hj]
        exact h3 _ ((selTri_mem hl).2 ⟨j,intL_cast.2 hi,hj,rfl⟩)
    · rintro ⟨h1,h2⟩
      refine wth_fits.2 ⟨h1,fun w hw=>?_,fun t ht=>?_⟩
      · obtain ⟨i,hi,c,rfl⟩:=(selWei_mem fun x hx=>(hl x hx).1).1 hw
        have:=h2 i (intL_cast.1 hi)
        rwa [resF_w c] at this
      · obtain ⟨i,hi,c,rfl⟩:=(selTri_mem hl).1 ht
        have:=h2 _ (intL_cast.1 hi)
        rwa [resF_t c] at this
  unfold BadL
  simp only [e]
theorem rclN_first {b : Ben} : ∀ {c m : Nat} {l : List Nat}, rclN b m c = some l → ∃ k, m ≤ k ∧ k < m + c ∧ (choN (resN b) k 0).find? (badB b) = some l ∧ ∀ j, m ≤ j → j < k → (choN (resN b) j 0).find? (badB b) = none
  | 0,m,l,h=>by cases h
  | c + 1, m, l, h => by
    rw [rclN] at h
    cases hq:(choN (resN b) m 0).find? (badB b) with
    | some x =>
      rw [hq] at h
      cases h
      exact ⟨m,Nat.le_refl _,by omega,hq,fun j h1 h2=>by omega⟩
    | none =>
      rw [hq] at h
      obtain ⟨k,h1,h2,h3,h4⟩:=rclN_first h
      exact ⟨k,by omega,by omega,h3,fun j g1 g2=>by
        by_cases e:j=m
        · subst e;exact hq
        · exact h4 j (by omega) g2⟩
theorem clash_first {b:Ben}(hv:ValidB b) (hl:learnB b (allR b)=false):∃c p,clashL b=some (intL c)∧clashE b=0∧1≤c.length∧c.length≤resN b∧BadL b c ∧
    (∃hp:p<(choN (resN b) c.length 0).length,(choN (resN b) c.length 0)[p]=c∧∀i,(h:i<p)→¬BadL b ((choN (resN b) c.length 0)[i]'(by omega))) ∧
    ∀m,m<c.length→∀d∈choN (resN b) m 0,¬BadL b d:=by
  have hc:=checkB_zero.2 hv
  have h1:=clash_bad hv hl
  obtain ⟨k,g1,g2,g3,g4⟩:=rclN_first h1
  obtain ⟨hb,pre,post,hpp,hpre⟩:=List.find?_eq_some_iff_append.1 g3
  have hm:rclF b∈choN (resN b) k 0:=by rw [hpp];simp
  obtain ⟨e1,e2⟩:=choN_mem.1 hm
  have hbad:=(badB_iff hv e2.lt).1 hb
  subst e1
  have hL:clashL b=some (intL (rclF b)):=by
    unfold clashL
    rw [if_pos hc,resF_len,clash_prog hv,h1];rfl
  refine ⟨rclF b,pre.length,hL, ?_,by omega,by omega,hbad, ?_, ?_⟩
  · have:=(clash_same b).2
    rw [this];unfold rclE
    rw [if_pos hc,hl];rfl
  · have hlen:pre.length<(choN (resN b) (rclF b).length 0).length:=by rw [hpp];simp
    refine ⟨hlen,by simp [hpp],fun i hi=>?_⟩
    have hmem:(choN (resN b) (rclF b).length 0)[i]'(by omega)∈pre:=by
      have:(choN (resN b) (rclF b).length 0)[i]'(by omega)=pre[i]:=by simp [hpp,List.getElem_append_left,hi]
      rw [this];exact List.getElem_mem hi
    have h3:=hpre _ hmem
    have hmem2:(choN (resN b) (rclF b).length 0)[i]'(by omega)∈choN (resN b) (rclF b).length 0:=List.getElem_mem _
    exact fun hb2=>by
      rw [(badB_iff hv (choN_mem.1 hmem2).2.lt).2 hb2] at h3;cases h3
  · intro m hmk d hd
    obtain ⟨d1,d2⟩:=choN_mem.1 hd
    by_cases e:m=0
    · rw [List.length_eq_zero_iff.1 (d1.trans e)];exact base_some hv
    · exact fun hb2=>List.find?_eq_none.1 (g4 m (by omega) (by omega)) d hd ((badB_iff hv d2.lt).2 hb2)
theorem clash_none {b:Ben}(hv:ValidB b) (hl:learnB b (allR b)=true):clashL b=none∧clashE b=3∧offsE b=0:=by
  have hc:=checkB_zero.2 hv
  have h1:clashL b=none:=by unfold clashL;rw [if_pos hc,resF_len,clash_prog hv,clash_good hv hl];rfl
  refine ⟨h1, ?_, ?_⟩
  · rw [(clash_same b).2];unfold rclE;rw [if_pos hc,if_pos hl]
  · rw [offE_kn hv]
    unfold knE
    rw [if_neg]
    intro h
    rw [(known_learn hv).1 h] at hl;cases hl
theorem clash_offs {b:Ben}(hv:ValidB b) (hl:learnB b (allR b)=false):offsE b=9:=by
  rw [offE_kn hv]
  exact kn_no ((known_learn hv).2 hl)
end Go.Sim
