/- Benches: what is said is so, whatever truly is. -/
import Derived.Test.YtojjfnhjmfokhaaQp
import Derived.Test.YtojjfnhjmfokhaaLp
set_option linter.all false
set_option linter.unusedVariables false
set_option linter.unusedSimpArgs false
set_option linter.unusedSectionVars false
namespace Go.Sim
open Go.Proofs
def xF (b:Ben) (f:Fac) (v:Nat):Int:=if v=0 then 0 else if v≤b.mas.length then nth f.offs (v-1) else -(nth (nth f.errs ((v-1-b.mas.length) / dd b)) ((v-1-b.mas.length) % dd b))
theorem xF_mas {b:Ben}{f:Fac}{i:Nat}(hi:i<b.mas.length):xF b f (1+i)=nth f.offs i:=by
  unfold xF
  rw [if_neg (by omega),if_pos (by omega),show 1+i-1=i by omega]
theorem xF_day {b:Ben}{f:Fac}{s d:Nat}(hd:d<dd b):xF b f (dayN b s d) = -(nth (nth f.errs s) d):=by
  unfold xF dayN
  rw [if_neg (by omega),if_neg (by omega),show 1+b.mas.length+s * dd b+d-1-b.mas.length=s * dd b+d by omega]
  have e1:(s * dd b+d) / dd b=s:=by
    rw [Nat.mul_comm,Nat.mul_add_div (dd_pos b),Nat.div_eq_of_lt hd];omega
  have e2:(s * dd b+d) % dd b=d:=by
    rw [Nat.mul_comm,Nat.mul_add_mod,Nat.mod_eq_of_lt hd]
  rw [e1,e2]
theorem fac_fits {b : Ben} {f : Fac} (hv : ValidB b) (hF : FacOk b f) (hh : holdB b f = true) : Fits b (xF b f) := by
  unfold holdB at hh
  rw [Bool.and_eq_true,List.all_eq_true,List.all_eq_true] at hh
  refine self_fits.2 ⟨fun j hj=>?_,fun w hw=>?_,fun t ht=>?_⟩
  · by_cases h1:j<b.mas.length
    · have e1:fromF' b j=0:=by unfold fromF';rw [if_pos h1]
      have e2:difF b j=((nth b.mas j).off.lo,(nth b.mas j).off.hi):=by unfold difF;rw [if_pos h1]
      rw [e1,e2,show j+1=1+j by omega,xF_mas h1]
      have:=(hF.offs.2 j h1).at_
      show _≤nth f.offs j-0∧nth f.offs j-0≤_
      dsimp only
      omega
    · obtain ⟨q,hq⟩:∃q,(j-b.mas.length) / dd b=q:=⟨_,rfl⟩
      obtain ⟨r,hr⟩:∃r,(j-b.mas.length) % dd b=r:=⟨_,rfl⟩
      have hrd:r<dd b:=by rw [←hr];exact Nat.mod_lt _ (dd_pos b)
      have hjq:j-b.mas.length=q * dd b+r:=by have:=Nat.div_add_mod (j-b.mas.length) (dd b);rw [hq,hr,Nat.mul_comm] at this;omega
      have hqs:q<b.scl.length:=by rw [←hq];exact scl_lt (by omega) hj
      have ej:j+1=dayN b q r:=by unfold dayN;omega
      have hrow:=(hF.errs.2 q hqs).row
      rw [ej,xF_day hrd]
      by_cases h2:r=0
      · have e1:fromF' b j=0:=by unfold fromF';rw [if_neg h1,hr,if_pos h2]
        have e2:difF b j=(-(nth b.scl q).fst.hi, -(nth b.scl q).fst.lo):=by unfold difF;rw [if_neg h1,hr,if_pos h2,hq]
        rw [e1,e2,h2]
        have:=hrow.fst
        show _≤-(nth (nth f.errs q) 0)-0∧-(nth (nth f.errs q) 0)-0≤_
        dsimp only
        omega
      · have e1:fromF' b j=j:=by unfold fromF';rw [if_neg h1,hr,if_neg h2]
        have e2:difF b j=(-(nth b.scl q).dri.hi, -(nth b.scl q).dri.lo):=by unfold difF;rw [if_neg h1,hr,if_neg h2,hq]
        have e3:j=dayN b q (r-1):=by unfold dayN;omega
        rw [e1,e2]
        rw [show xF b f j = -(nth (nth f.errs q) (r-1)) by rw [e3];exact xF_day (by omega)]
        have:=hrow.dri (r-1) (by unfold dd at hrd;omega)
        rw [show r-1+1=r by omega] at this
        dsimp only
        omega
  · have k:=hv.wei w hw
    have h1:=hh.1 w hw
    unfold weiB at h1
    rw [decide_eq_true_eq] at h1
    show _≤xF b f (1+w.a.toNat)-xF b f (1+w.b.toNat)∧xF b f (1+w.a.toNat)-xF b f (1+w.b.toNat)≤_
    rw [xF_mas (by omega),xF_mas (by omega)]
    exact h1
  · have k:=hv.tri t ht
    have h1:=hh.2 t ht
    unfold triB at h1
    rw [decide_eq_true_eq] at h1
    show t.sh-(nth b.mas t.ms.toNat).nom≤xF b f (1+t.ms.toNat)-xF b f (dayN b t.sc.toNat t.day.toNat)∧xF b f (1+t.ms.toNat)-xF b f (dayN b t.sc.toNat t.day.toNat)≤t.sh-(nth b.mas t.ms.toNat).nom
    rw [xF_mas (by omega),xF_day (by have:=hv.days;unfold dd;omega)]
    omega
theorem true_all {b : Ben} {f : Fac} (hv : ValidB b) (hF : FacOk b f) (hh : holdB b f = true) : knE b = 0 ∧
    ((offsL b).length=b.mas.length∧∀k,(h1:k<(offsL b).length)→(h2:k<f.offs.length)→(h3:k<b.mas.length)→((offsL b)[k].lo≤f.offs[k]∧f.offs[k]≤(offsL b)[k].hi)∧within (offsL b)[k] b.mas[k].off) ∧
    ∀ s : Nat, s < b.scl.length → ((errsL b s).length = dd b ∧ ∀ k, (h1 : k < (errsL b s).length) → (errsL b s)[k].lo ≤ nth (nth f.errs s) k ∧ nth (nth f.errs s) k ≤ (errsL b s)[k].hi) ∧
      ∀ d : Nat, d < dd b → (∀ sh : Int, 0 ≤ sh ∧ sh ≤ 2000000 → weiE b s d sh = 0 ∧ (weiX b s d sh).lo ≤ sh - nth (nth f.errs s) d ∧ sh - nth (nth f.errs s) d ≤ (weiX b s d sh).hi) ∧
        ∀L:Int,0≤L∧L≤10000→(keeV b s d L=1→-L≤nth (nth f.errs s) d∧nth (nth f.errs s) d≤L)∧(keeV b s d L=2→¬(-L≤nth (nth f.errs s) d∧nth (nth f.errs s) d≤L)):=by
  obtain ⟨u,hu,hle⟩:=true_at hv (fac_fits hv hF hh)
  have z0:0<sizeB b:=by have:=sizeB_le hv;omega
  have x0:xF b f 0=0:=rfl
  have hday:∀s d,s<b.scl.length→d<dd b→-(hi2 u 0 (dayN b s d))≤nth (nth f.errs s) d∧nth (nth f.errs s) d≤hi2 u (dayN b s d) 0:=fun s d hs hd=>by
    have hk:=dayN_lt hs hd
    have h1:=hle _ _ z0 hk
    have h2:=hle _ _ hk z0
    rw [xF_day hd,x0] at h1 h2
    omega
  refine ⟨kn_yes hu,⟨by rw [(known_yes hv hu).2];simp,fun k h1 h2 h3=>?_⟩,fun s hs=>⟨⟨by rw [(err_yes hv hu hs).2];simp,fun k h1=>?_⟩,fun d hd=>⟨fun sh hsh=>?_,fun L hL=>?_⟩⟩⟩
  · have hk' : 1+k<sizeB b:=by unfold sizeB;omega
    have e1:(offsL b)[k]=⟨-(hi2 u (1+k) 0),hi2 u 0 (1+k)⟩:=by simp [(known_yes hv hu).2]
    rw [e1]
    have g1:=hle _ _ z0 hk'
    have g2:=hle _ _ hk' z0
    rw [xF_mas h3,x0,nth_get h2] at g1 g2
    have g3:=off_within hv hu h3
    exact ⟨⟨by dsimp only;omega,by dsimp only;omega⟩,⟨by dsimp only;omega,by dsimp only;omega⟩⟩
  · have hk:k<dd b:=by have:=(err_yes hv hu hs).2;rw [this] at h1;simpa using h1
    have e1:(errsL b s)[k]=⟨-(hi2 u 0 (dayN b s k)),hi2 u (dayN b s k) 0⟩:=by simp [(err_yes hv hu hs).2]
    rw [e1]
    exact hday s k hs hk
  · have e0:weiE b s d sh=0:=(onE_kn hv hs hd hsh).trans (kn_yes hu)
    refine ⟨e0, ?_⟩
    have g:=hday s d hs hd
    obtain ⟨_,_,_,b1,b2⟩:=span_same hv hu (v:=dayN b s d) (dayN_lt hs hd)
    unfold weiX
    rw [if_pos e0,onX_kn hv hu hs hd hsh]
    dsimp only
    rw [wrap_i64 (by omega) (by omega),wrap_i64 (by omega) (by omega)]
    omega
  · have g:=hday s d hs hd
    rw [keeV_kn hv hu hs hd hL]
    unfold verdX
    dsimp only
    constructor
    · intro h
      split at h
      · omega
      · split at h<;>cases h
    · intro h
      split at h
      · cases h
      · split at h
        · omega
        · cases h
end Go.Sim
