/- Benches: more results, fewer results, and what truly is. -/
import Derived.Test.YtojjfnhjmfokhaaLl
set_option linter.all false
set_option linter.unusedVariables false
set_option linter.unusedSimpArgs false
set_option linter.unusedSectionVars false
namespace Go.Sim
open Go.Proofs
def wth (b:Ben) (ws:List Wei) (ts:List Tri):Ben:=⟨b.mas,ws,b.scl,ts,b.days⟩
theorem wth_fits {b:Ben}{ws:List Wei}{ts:List Tri}{x:Nat→Int}:Fits (wth b ws ts) x↔Base b x∧(∀w∈ws,FctHolds x (weiF w))∧∀t∈ts,FctHolds x (triF b t):=by
  constructor
  · rintro ⟨h1,h2⟩
    exact ⟨h1,fun w hw=>h2 _ (List.mem_append_left _ (List.mem_map.2 ⟨w,hw,rfl⟩)),fun t ht=>h2 _ (List.mem_append_right _ (List.mem_map.2 ⟨t,ht,rfl⟩))⟩
  · rintro ⟨h1,h2,h3⟩
    refine ⟨h1,fun f hf=>?_⟩
    rcases List.mem_append.1 hf with g | g
    · obtain ⟨w,hw,rfl⟩:=List.mem_map.1 g;exact h2 w hw
    · obtain ⟨t,ht,rfl⟩:=List.mem_map.1 g;exact h3 t ht
theorem self_fits {b:Ben}{x:Nat→Int}:Fits b x↔Base b x∧(∀w∈b.wei,FctHolds x (weiF w))∧∀t∈b.tri,FctHolds x (triF b t):=wth_fits (b:=b) (ws:=b.wei) (ts:=b.tri)
theorem off_at {b:Ben}(hv:ValidB b){u:Tab}(hu:knownT b=some u){i:Nat}(hi:i<b.mas.length):(⟨(at2 u 0 (1+i)).1,(at2 u 0 (1+i)).2⟩:Spn)=⟨-(hi2 u (1+i) 0),hi2 u 0 (1+i)⟩:=by
  obtain ⟨_,e1,e2,_⟩:=span_same hv hu (v:=1+i) (by unfold sizeB;omega)
  rw [e1,e2]
theorem err_at {b:Ben}(hv:ValidB b){u:Tab}(hu:knownT b=some u){s d:Nat}(hs:s<b.scl.length) (hd:d<dd b):errT u b s d=⟨-(hi2 u 0 (dayN b s d)),hi2 u (dayN b s d) 0⟩:=by
  obtain ⟨_,e1,e2,b1,b2⟩:=span_same hv hu (v:=dayN b s d) (dayN_lt hs hd)
  unfold errT turnD
  simp only
  rw [e1,e2,wrap_i64 (by omega) (by omega),wrap_i64 (by omega) (by omega),Int.neg_neg]
theorem known_yes {b:Ben}(hv:ValidB b){u:Tab}(hu:knownT b=some u):offsE b=0∧offsL b=(List.range b.mas.length).map fun i=>⟨-(hi2 u (1+i) 0),hi2 u 0 (1+i)⟩:=by
  have hc:=checkB_zero.2 hv
  have e:offsE b=0:=by unfold offsE;rw [if_neg (fun n=>n hc),knE,hu];rfl
  refine ⟨e, ?_⟩
  unfold offsL
  rw [if_pos e,hu]
  show offsT u _=_
  exact List.map_congr_left fun i hi=>off_at hv hu (List.mem_range.1 hi)
theorem known_no {b:Ben}(hv:ValidB b) (hu:knownT b=none):offsE b=9∧offsL b=[]:=by
  have hc:=checkB_zero.2 hv
  have e:offsE b=9:=by unfold offsE;rw [if_neg (fun n=>n hc),knE,hu];rfl
  exact ⟨e,by unfold offsL;rw [e];rfl⟩
theorem chk_ok {b:Ben}(hv:ValidB b){s:Int}(hs:0≤s∧s<b.scl.length):chkSc b s=0:=chkSc_zero.2 ⟨hv,hs.1,hs.2⟩
theorem err_yes {b:Ben}(hv:ValidB b){u:Tab}(hu:knownT b=some u){s:Nat}(hs:s<b.scl.length):errsE b s=0∧errsL b s=(List.range (dd b)).map fun d=>⟨-(hi2 u 0 (dayN b s d)),hi2 u (dayN b s d) 0⟩:=by
  have hc:=chk_ok hv (s:=s) (by omega)
  have e:errsE b s=0:=by unfold errsE;rw [if_neg (fun n=>n hc),knE,hu];rfl
  refine ⟨e, ?_⟩
  unfold errsL
  rw [if_pos e,hu,Int.toNat_natCast]
  show errsT u b s _=_
  exact List.map_congr_left fun d hd=>err_at hv hu hs (List.mem_range.1 hd)
theorem err_no {b:Ben}(hv:ValidB b) (hu:knownT b=none){s:Nat}(hs:s<b.scl.length):errsE b s=9∧errsL b s=[]:=by
  have hc:=chk_ok hv (s:=s) (by omega)
  have e:errsE b s=9:=by unfold errsE;rw [if_neg (fun n=>n hc),knE,hu];rfl
  exact ⟨e,by unfold errsL;rw [e];rfl⟩
def within (x y:Spn):Prop:=y.lo≤x.lo∧x.hi≤y.hi
/-! what truly is -/
theorem true_at {b:Ben}(hv:ValidB b){x:Nat→Int}(hx:Fits b x):∃u,knownT b=some u∧∀i k,i<sizeB b→k<sizeB b→x k-x i≤hi2 u i k:=by
  cases hu:knownT b with
  | none=>exact absurd ⟨x,hx⟩ ((known_none hv).1 hu)
  | some u =>
    obtain ⟨g1,g2,g3⟩:=known_some hv hu
    exact ⟨u,rfl,fun i k hi hk=>(g3 x).2 hx i k hi hk (g2 i k hi hk)⟩
theorem off_within {b:Ben}(hv:ValidB b){u:Tab}(hu:knownT b=some u){i:Nat}(hi:i<b.mas.length):b.mas[i].off.lo≤-(hi2 u (1+i) 0)∧hi2 u 0 (1+i)≤b.mas[i].off.hi:=by
  obtain ⟨g1,g2,g3⟩:=known_some hv hu
  have h0:0<sizeB b:=by have:=sizeB_le hv;omega
  have hi1:1+i<sizeB b:=by unfold sizeB;omega
  have e1:fromF' b i=0:=by unfold fromF';rw [if_pos hi]
  have e2:difF b i=(b.mas[i].off.lo,b.mas[i].off.hi):=by unfold difF;rw [if_pos hi,nth_get hi]
  have b1:=((g3 _).1 (g1.reach g2 h0)).1 i (by omega)
  have b2:=((g3 _).1 (g1.reach g2 hi1)).1 i (by omega)
  rw [e1,e2] at b1 b2
  have d1:=g1.diag 0 h0
  have d2:=g1.diag (1+i) hi1
  rw [show i+1=1+i by omega] at b1 b2
  simp only at b1 b2
  omega
end Go.Sim
