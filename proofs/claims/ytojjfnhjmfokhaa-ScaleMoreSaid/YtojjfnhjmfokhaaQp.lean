/- Benches: one result more makes nothing wider. -/
import Derived.Test.YtojjfnhjmfokhaaQo
import Derived.Test.YtojjfnhjmfokhaaLs
set_option linter.all false
set_option linter.unusedVariables false
set_option linter.unusedSimpArgs false
set_option linter.unusedSectionVars false
namespace Go.Sim
open Go.Proofs
theorem only_fits {b:Ben} {l:List Int} (hl:∀ i∈l,0≤i∧i < b.wei.length + b.tri.length) {x:Nat→Int} (h:Fits b x):Fits (onlyB b l) x:=by
  obtain ⟨h1,h2,h3⟩:=self_fits.1 h
  refine wth_fits.2 ⟨h1,fun w hw=>?_,fun t ht=>?_⟩
  · obtain ⟨i,_,hi,rfl⟩:=(selWei_mem fun i hi=>(hl i hi).1).1 hw
    exact h2 _ (List.getElem_mem hi)
  · obtain ⟨i,_,hi,rfl⟩:=(selTri_mem hl).1 ht
    exact h3 _ (List.getElem_mem hi)
theorem offE_kn {b:Ben} (hv:ValidB b):offsE b=knE b:=by unfold offsE; rw [if_neg (fun n=>n (checkB_zero.2 hv))]
theorem errE_kn {b:Ben} (hv:ValidB b) {s:Nat} (hs:s < b.scl.length):errsE b s=knE b:=by unfold errsE; rw [if_neg (fun n=>n (chk_ok hv (by omega)))]
theorem onE_kn {b:Ben} (hv:ValidB b) {s d:Nat} (hs:s < b.scl.length) (hd:d < dd b) {o most:Int} (ho:0≤o∧o≤most):onE b s d o most=knE b:=by
  have hdy:=hv.days
  have h1:(d:Int)≤b.days:=by unfold dd at hd; omega
  unfold onE
  rw [if_neg (fun n=>n (chk_ok hv (by omega))),inB_iff.2 ⟨by omega,h1⟩,inB_iff.2 ho]; rfl
theorem kn_yes {b:Ben} {u:Tab} (hu:knownT b=some u):knE b=0:=by unfold knE; rw [hu]; rfl
theorem kn_no {b:Ben} (hu:knownT b=none):knE b=9:=by unfold knE; rw [hu]; rfl
theorem onX_kn {b:Ben} (hv:ValidB b) {u:Tab} (hu:knownT b=some u) {s d:Nat} (hs:s < b.scl.length) (hd:d < dd b) {o most:Int} (ho:0≤o∧o≤most):onX b s d o most=⟨-(hi2 u 0 (dayN b s d)),hi2 u (dayN b s d) 0⟩:=by
  unfold onX
  rw [if_pos ((onE_kn hv hs hd ho).trans (kn_yes hu)),hu,Int.toNat_natCast,Int.toNat_natCast]
  exact err_at hv hu hs hd
theorem keeE_kn {b:Ben} (hv:ValidB b) {s d:Nat} (hs:s < b.scl.length) (hd:d < dd b) {l:Int} (hl:0≤l∧l≤10000):keeE b s d l=knE b:=onE_kn hv hs hd hl
theorem keeV_kn {b:Ben} (hv:ValidB b) {u:Tab} (hu:knownT b=some u) {s d:Nat} (hs:s < b.scl.length) (hd:d < dd b) {l:Int} (hl:0≤l∧l≤10000):keeV b s d l=verdX ⟨-(hi2 u 0 (dayN b s d)),hi2 u (dayN b s d) 0⟩ l:=by
  unfold keeV
  rw [if_pos ((keeE_kn hv hs hd hl).trans (kn_yes hu)),onX_kn hv hu hs hd hl]
theorem more_all {b:Ben} (hv:ValidB b) {l:List Int} (hl:∀ i∈l,0≤i∧i < b.wei.length + b.tri.length) (hv2:ValidB (onlyB b l)) (h0:knE b=0) :
    knE (onlyB b l)=0∧((offsL b).length=b.mas.length∧(offsL (onlyB b l)).length=b.mas.length∧∀ k,(h1:k < (offsL b).length)→(h2:k < (offsL (onlyB b l)).length)→within (offsL b)[k] (offsL (onlyB b l))[k]) ∧
    ∀ s : Nat, s < b.scl.length → ((errsL b s).length = dd b ∧ (errsL (onlyB b l) s).length = dd b ∧ ∀ k, (h1 : k < (errsL b s).length) → (h2 : k < (errsL (onlyB b l) s).length) → within (errsL b s)[k] (errsL (onlyB b l) s)[k]) ∧
      ∀ d:Nat,d < dd b→∀ L:Int,0≤L∧L≤10000→keeV (onlyB b l) s d L≠3→keeV b s d L=keeV (onlyB b l) s d L:=by
  cases hu:knownT b with
  | none=>rw [kn_no hu] at h0; cases h0
  | some u =>
    obtain ⟨w,hw,hle⟩:=less_fits (b:=b) (o:=onlyB b l) rfl rfl rfl hv hv2 (fun x=>only_fits hl) hu
    have z0:0 < sizeB b:=by have:=sizeB_le hv; omega
    refine ⟨kn_yes hw,⟨by rw [(known_yes hv hu).2]; simp,by rw [(known_yes hv2 hw).2]; simp [onlyB,wth],fun k h1 h2=>?_⟩,fun s hs=>⟨⟨by rw [(err_yes hv hu hs).2]; simp,by rw [(err_yes hv2 hw (s:=s) hs).2]; simp [dd,onlyB,wth],fun k h1 h2=>?_⟩,fun d hd L hL hn=>?_⟩⟩
    · have hk:k < b.mas.length:=by have:=(known_yes hv hu).2; rw [this] at h1; simpa using h1
      have hk' : 1 + k < sizeB b:=by unfold sizeB; omega
      have e1:(offsL b)[k]=⟨-(hi2 u (1 + k) 0),hi2 u 0 (1 + k)⟩:=by simp [(known_yes hv hu).2]
      have e2:(offsL (onlyB b l))[k]=⟨-(hi2 w (1 + k) 0),hi2 w 0 (1 + k)⟩:=by simp [(known_yes hv2 hw).2]
      rw [e1,e2]
      have:=hle _ _ hk' z0
      have:=hle _ _ z0 hk'
      exact ⟨by dsimp only; omega,by dsimp only; omega⟩
    · have hk:k < dd b:=by have:=(err_yes hv hu hs).2; rw [this] at h1; simpa using h1
      have hk' : dayN b s k < sizeB b:=dayN_lt hs hk
      have e1:(errsL b s)[k]=⟨-(hi2 u 0 (dayN b s k)),hi2 u (dayN b s k) 0⟩:=by simp [(err_yes hv hu hs).2]
      have e2:(errsL (onlyB b l) s)[k]=⟨-(hi2 w 0 (dayN b s k)),hi2 w (dayN b s k) 0⟩:=by simp [(err_yes hv2 hw (s:=s) hs).2]; exact ⟨rfl,rfl⟩
      rw [e1,e2]
      have:=hle _ _ hk' z0
      have:=hle _ _ z0 hk'
      exact ⟨by dsimp only; omega,by dsimp only; omega⟩
    · have hk' : dayN b s d < sizeB b:=dayN_lt hs hd
      have e2:=keeV_kn hv2 hw (s:=s) (d:=d) hs hd hL
      rw [keeV_kn hv hu hs hd hL]
      rw [e2] at hn ⊢
      have:=hle _ _ hk' z0
      have:=hle _ _ z0 hk'
      have hsm:=hi_sum hv hu z0 hk'
      exact verd_within ⟨by show -(hi2 w 0 (dayN b s d))≤-(hi2 u 0 (dayN b s d)); omega,by show hi2 u (dayN b s d) 0≤hi2 w (dayN b s d) 0; omega⟩ (by dsimp only; omega) hn
end Go.Sim
