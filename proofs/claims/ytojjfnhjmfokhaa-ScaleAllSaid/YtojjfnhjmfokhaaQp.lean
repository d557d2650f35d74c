/- Benches: one result more makes nothing wider. -/
import Derived.Test.YtojjfnhjmfokhaaQo
import Derived.Test.YtojjfnhjmfokhaaLs
set_option linter.all false
set_option linter.unusedVariables false
set_option linter.unusedSimpArgs false
set_option linter.unusedSectionVars false
namespace Go.Sim
open Go.Proofs
theorem onE_kn {b:Ben}(hv:ValidB b){s d:Nat}(hs:s<b.scl.length) (hd:d<dd b){o most:Int}(ho:0≤o∧o≤most):onE b s d o most=knE b:=by
  have hdy:=hv.days
  have h1:(d:Int)≤b.days:=by unfold dd at hd;omega
  unfold onE
  rw [if_neg (fun n=>n (chk_ok hv (by omega))),inB_iff.2 ⟨by omega,h1⟩,inB_iff.2 ho];rfl
theorem kn_yes {b:Ben}{u:Tab}(hu:knownT b=some u):knE b=0:=by unfold knE;rw [hu];rfl
theorem onX_kn {b:Ben}(hv:ValidB b){u:Tab}(hu:knownT b=some u){s d:Nat}(hs:s<b.scl.length) (hd:d<dd b){o most:Int}(ho:0≤o∧o≤most):onX b s d o most=⟨-(hi2 u 0 (dayN b s d)),hi2 u (dayN b s d) 0⟩:=by
  unfold onX
  rw [if_pos ((onE_kn hv hs hd ho).trans (kn_yes hu)),hu,Int.toNat_natCast,Int.toNat_natCast]
  exact err_at hv hu hs hd
theorem keeE_kn {b:Ben}(hv:ValidB b){s d:Nat}(hs:s<b.scl.length) (hd:d<dd b){l:Int}(hl:0≤l∧l≤10000):keeE b s d l=knE b:=onE_kn hv hs hd hl
theorem keeV_kn {b:Ben}(hv:ValidB b){u:Tab}(hu:knownT b=some u){s d:Nat}(hs:s<b.scl.length) (hd:d<dd b){l:Int}(hl:0≤l∧l≤10000):keeV b s d l=verdX ⟨-(hi2 u 0 (dayN b s d)),hi2 u (dayN b s d) 0⟩ l:=by
  unfold keeV
  rw [if_pos ((keeE_kn hv hs hd hl).trans (kn_yes hu)),onX_kn hv hu hs hd hl]
end Go.Sim
