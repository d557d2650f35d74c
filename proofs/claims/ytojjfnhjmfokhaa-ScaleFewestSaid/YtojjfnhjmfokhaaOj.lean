/- The fewest tests that keep all sealed: the law answers true. -/
import Derived.Test.YtojjfnhjmfokhaaNb
import Derived.Test.YtojjfnhjmfokhaaLy
import Derived.Test.YtojjfnhjmfokhaaLn
import Derived.Test.YtojjfnhjmfokhaaLo
namespace Go.Sim
open Go.Proofs
set_option maxRecDepth 100000
set_option linter.unusedSimpArgs false
set_option linter.unusedVariables false
attribute [-simp] List.map_set List.map_take List.map_drop
attribute [simp] spn_eta T2_def T2_isData
theorem search_ok (s:Sls) (hv:ValidS s):∀(m:Nat) (ps:List Nat),PsOk s ps→m≤100→ACalls Try.prog 36 [slsV s,tstV (ps.map (tstAt s.lef.length)),I m] [] (fun r o=>r=plnT (betP s m ps)∧o=[])
  | 0,ps,hp,_=>better_zero s hv (ps.map (tstAt s.lef.length)) (by rw [List.length_map];have:=hp.len hv;omega) (hp.day hv)
  | m + 1, ps, hp, h => better_step s hv ps hp _ rfl m (by omega) fun p h1 h2 => by
      have k:=search_ok s hv m (ps++[p]) (hp.snoc h1 h2) (by omega)
      rw [List.map_append] at k
      exact k
theorem psOk0 (s:Sls):PsOk s []:=⟨List.Pairwise.nil,fun p m=>by cases m⟩
theorem planP_asc {s:Sls}(hv:ValidS s) (h:(planP s).2=true):AscT s 0 (planP s).1:=
  pl_asc hv.le _ 0 _ _ (by have:=hv.days;omega) ((planF_best s (s.days+1).toNat 0 (left0 s)).yes h).1
theorem planL_yes {s:Sls}(hv:ValidS s) (h:(planP s).2=true):planL s=(planP s).1∧planE s=0:=by
  have e:=seaC_zero.2 hv
  unfold planL planE
  rw [if_pos ⟨e,h⟩,if_neg (fun n=>n e),if_pos h]
  exact ⟨rfl,rfl⟩
theorem planL_no {s:Sls}(hv:ValidS s) (h:¬(planP s).2=true):planL s=[]∧planE s=3:=by
  have e:=seaC_zero.2 hv
  unfold planL planE
  rw [if_neg (fun n=>h n.2),if_neg (fun n=>n e),if_neg h]
  exact ⟨rfl,rfl⟩
theorem planL_dom {s:Sls}(hv:ValidS s):(planL s).length≤100∧∀t∈planL s,0≤t.day∧t.day≤10:=by
  by_cases h:(planP s).2=true
  · rw [(planL_yes hv h).1]
    refine ⟨?_,fun t m=>?_⟩
    · have:=(few_ok hv).len h;have:=topN_le hv;omega
    · have:=((planP_asc hv h).dom t m).1;have:=hv.days;omega
  · rw [(planL_no hv h).1]
    exact ⟨by simp,fun t m=>by cases m⟩
theorem bet_at {s : Sls} (hv : ValidS s) {n : Nat} (hn : ∀ m, m < n → (betP s m []).2 = false) (h : (betP s n []).2 = true) : (planP s).2 = true ∧ betP s n [] = ((planP s).1, true) := by
  have f:=few_ok hv
  cases hp:(planP s).2
  · rw [f.none hp n] at h;cases h
  · refine ⟨rfl, ?_⟩
    have e:n=(planP s).1.length:=by
      by_cases h1:n<(planP s).1.length
      · rw [f.less hp n h1] at h;cases h
      · by_cases h2:(planP s).1.length<n
        · have:=hn _ h2
          rw [f.same hp] at this;cases this
        · omega
    rw [e];exact f.same hp
theorem bet_none {s:Sls}(hv:ValidS s){n:Nat}(hn:∀m,m<n→(betP s m []).2=false) (h:topN s<n):(planP s).2=false:=by
  have f:=few_ok hv
  cases hp:(planP s).2
  · rfl
  · have:=hn _ (by have:=f.len hp;omega:(planP s).1.length<n)
    rw [f.same hp] at this;cases this
set_option maxHeartbeats 4000000 in
theorem ScaleFewest_ok (nums:List Int):ACalls Try.prog 6 [ints nums] [] (fun r o=>r=B true∧o=[]):=by
 refine ACalls.enter hΓ Try.func6 rfl (by kernel_rfl) Try.ntmps6 (by rw [Try.results6]) (by simp) (by simp; (try (simp (disch := omega) only [wrap_i64, mul_i64, capOk_of]; (try simp); trace "#ScaleFewest_ok.1 w")); rfl) ?_
 refine W.regK hΓ [0] (by simp; (try (simp (disch := omega) only [wrap_i64, mul_i64, capOk_of]; (try simp); trace "#ScaleFewest_ok.2 w")); rfl) ?_
 refine W.seqR ?_
 refine WOps.n hΓ 1 (by simp; (try (simp (disch := omega) only [wrap_i64, mul_i64, capOk_of]; (try simp); trace "#ScaleFewest_ok.3 w")); first | rfl | exact ⟨rfl, rfl⟩) rfl ?_
 refine WOps.call rfl rfl rfl rfl [] rfl rfl (by decide) (by simp; (try (simp (disch := omega) only [wrap_i64, mul_i64, capOk_of]; (try simp); trace "#ScaleFewest_ok.4 w")); first | rfl | exact ⟨rfl, rfl⟩) (by simp; (try (simp (disch := omega) only [wrap_i64, mul_i64, capOk_of]; (try simp); trace "#ScaleFewest_ok.5 w")); rfl) ?_
 refine CallT.mk (DieOf_ok nums) (by simp; (try (simp (disch := omega) only [wrap_i64, mul_i64, capOk_of]; (try simp); trace "#ScaleFewest_ok.6 w"))) ?_
 obtain ⟨g,qg⟩:∃f,nums.foldl dieStep 2611923443488327891=f:=⟨_,rfl⟩
 have hg0:=qg
 obtain ⟨s,qs⟩:∃x,sealV g 2 4=x:=⟨_,rfl⟩
 have hs:=qs
 have qm:MadeS s 2 4:=by rw [←qs];exact sealV_made g (by omega) (by omega)
 refine WOps.norm (by simp [hg0, hs]; (try (simp (disch := omega) only [wrap_i64, mul_i64, capOk_of]; (try simp [hg0, hs]); trace "#ScaleFewest_ok.7 w")); rfl) ?_
 refine WOps.call rfl rfl rfl rfl [(10000, 80)] rfl rfl (by decide) (by simp [hg0, hs]; (try (simp (disch := omega) only [wrap_i64, mul_i64, capOk_of]; (try simp [hg0, hs]); trace "#ScaleFewest_ok.8 w")); first | rfl | exact ⟨rfl, rfl⟩) (by simp [hg0, hs]; (try (simp (disch := omega) only [wrap_i64, mul_i64, capOk_of]; (try simp [hg0, hs]); trace "#ScaleFewest_ok.9 w")); rfl) ?_
 refine CallT.mk (SealsOf_ok g 2 4 (by omega) (by omega)) (by simp [hg0, hs]; (try (simp (disch := omega) only [wrap_i64, mul_i64, capOk_of]; (try simp [hg0, hs]); trace "#ScaleFewest_ok.10 w"))) ?_
 refine WOps.norm (by simp [hg0, hs]; (try (simp (disch := omega) only [wrap_i64, mul_i64, capOk_of]; (try simp [hg0, hs]); trace "#ScaleFewest_ok.11 w")); rfl) ?_
 refine WOps.n hΓ 2 (by simp [hg0, hs]; (try (simp (disch := omega) only [wrap_i64, mul_i64, capOk_of]; (try simp [hg0, hs]); trace "#ScaleFewest_ok.12 w")); first | rfl | exact ⟨rfl, rfl⟩) rfl ?_
 refine WOps.endK ?_
 refine W.keep [3] (by simp [hg0, hs]; (try (simp (disch := omega) only [wrap_i64, mul_i64, capOk_of]; (try simp [hg0, hs]); trace "#ScaleFewest_ok.13 w")); rfl) ?_
 have hv:ValidS s:=qm.ok
 have hd0:0≤s.days:=hv.days.1
 have hd10:s.days≤10:=hv.days.2
 have hl4:s.lef.length≤4:=hv.l4
 have hle:s.eve.length=s.lef.length:=hv.le
 obtain ⟨T,qT⟩:∃T,topN s=T:=⟨_,rfl⟩
 have hT44:T≤44:=by rw [←qT];exact topN_le hv
 have hTm:mulI .i64 (s.days+1) (s.lef.length:Int)=(T:Int):=by
   have e:(s.days+1) * (s.lef.length:Int)=(T:Int):=by
     rw [←qT];unfold topN
     rw [Int.natCast_mul,show (((s.days+1).toNat:Nat):Int)=s.days+1 by omega]
   rw [mulI_eq,e,wrap_i64 (by omega) (by omega)]
 obtain ⟨qdl,qdd⟩:=planL_dom hv
 obtain ⟨p,qp⟩:∃p,planL s=p:=⟨_,rfl⟩
 have hp:=qp
 rw [qp] at qdl qdd
 refine W.seqR ?_
 refine WOps.n hΓ 1 (by simp [hg0, hs, hv, hd0, hd10, hl4, hle, hT44, hTm, hp]; (try (simp (disch := omega) only [wrap_i64, mul_i64, capOk_of]; (try simp [hg0, hs, hv, hd0, hd10, hl4, hle, hT44, hTm, hp]); trace "#ScaleFewest_ok.14 w")); first | rfl | exact ⟨rfl, rfl⟩) rfl ?_
 refine WOps.call rfl rfl rfl rfl [] rfl rfl (by decide) (by simp [hg0, hs, hv, hd0, hd10, hl4, hle, hT44, hTm, hp]; (try (simp (disch := omega) only [wrap_i64, mul_i64, capOk_of]; (try simp [hg0, hs, hv, hd0, hd10, hl4, hle, hT44, hTm, hp]); trace "#ScaleFewest_ok.15 w")); first | rfl | exact ⟨rfl, rfl⟩) (by simp [hg0, hs, hv, hd0, hd10, hl4, hle, hT44, hTm, hp]; (try (simp (disch := omega) only [wrap_i64, mul_i64, capOk_of]; (try simp [hg0, hs, hv, hd0, hd10, hl4, hle, hT44, hTm, hp]); trace "#ScaleFewest_ok.16 w")); rfl) ?_
 refine CallT.mk (Plan_ok s (by omega) (by omega)) (by simp [hg0, hs, hv, hd0, hd10, hl4, hle, hT44, hTm, hp]; (try (simp (disch := omega) only [wrap_i64, mul_i64, capOk_of]; (try simp [hg0, hs, hv, hd0, hd10, hl4, hle, hT44, hTm, hp]); trace "#ScaleFewest_ok.17 w"))) ?_
 refine WOps.norm (by simp [hg0, hs, hv, hd0, hd10, hl4, hle, hT44, hTm, hp]; (try (simp (disch := omega) only [wrap_i64, mul_i64, capOk_of]; (try simp [hg0, hs, hv, hd0, hd10, hl4, hle, hT44, hTm, hp]); trace "#ScaleFewest_ok.18 w")); rfl) ?_
 refine WOps.n hΓ 5 (by simp [hg0, hs, hv, hd0, hd10, hl4, hle, hT44, hTm, hp]; (try (simp (disch := omega) only [wrap_i64, mul_i64, capOk_of]; (try simp [hg0, hs, hv, hd0, hd10, hl4, hle, hT44, hTm, hp]); trace "#ScaleFewest_ok.19 w")); first | rfl | exact ⟨rfl, rfl⟩) rfl ?_
 refine WOps.endK ?_
 refine W.keep [3, 4, 5] (by simp [hg0, hs, hv, hd0, hd10, hl4, hle, hT44, hTm, hp]; (try (simp (disch := omega) only [wrap_i64, mul_i64, capOk_of]; (try simp [hg0, hs, hv, hd0, hd10, hl4, hle, hT44, hTm, hp]); trace "#ScaleFewest_ok.20 w")); rfl) ?_
 refine W.seqk fun K1 hK1=>?_
 by_cases hP:(planP s).2=true
 ·
  have hE:planE s=0:=(planL_yes hv hP).2
  have hK:keptB s p=true:=by rw [←qp,(planL_yes hv hP).1];exact (few_ok hv).kept hP
  refine W.seqR ?_
  refine WOps.n hΓ 3 (by simp [hg0, hs, hv, hd0, hd10, hl4, hle, hT44, hTm, hp, hP, hE, hK]; (try (simp (disch := omega) only [wrap_i64, mul_i64, capOk_of]; (try simp [hg0, hs, hv, hd0, hd10, hl4, hle, hT44, hTm, hp, hP, hE, hK]); trace "#ScaleFewest_ok.21 w")); first | rfl | exact ⟨rfl, rfl⟩) rfl ?_
  refine WOps.gd rfl rfl (by simp [hg0, hs, hv, hd0, hd10, hl4, hle, hT44, hTm, hp, hP, hE, hK]; (try (simp (disch := omega) only [wrap_i64, mul_i64, capOk_of]; (try simp [hg0, hs, hv, hd0, hd10, hl4, hle, hT44, hTm, hp, hP, hE, hK]); trace "#ScaleFewest_ok.22 w")); first | rfl | exact (Bool.not_not _).symm) ?_
  first
  | ((with_reducible refine WG.isF ?_); refine WGf.mk rfl (by simp [hg0, hs, hv, hd0, hd10, hl4, hle, hT44, hTm, hp, hP, hE, hK]; (try (simp (disch := omega) only [wrap_i64, mul_i64, capOk_of]; (try simp [hg0, hs, hv, hd0, hd10, hl4, hle, hT44, hTm, hp, hP, hE, hK]); trace "#ScaleFewest_ok.23 w")); rfl) ?_; trace "#ScaleFewest_ok.28 F")
  | ((with_reducible refine WG.isT ?_); refine WGt.mk hΓ rfl (by simp [hg0, hs, hv, hd0, hd10, hl4, hle, hT44, hTm, hp, hP, hE, hK]; (try (simp (disch := omega) only [wrap_i64, mul_i64, capOk_of]; (try simp [hg0, hs, hv, hd0, hd10, hl4, hle, hT44, hTm, hp, hP, hE, hK]); trace "#ScaleFewest_ok.24 w")); first | rfl | exact ⟨rfl, rfl⟩) (by simp [hg0, hs, hv, hd0, hd10, hl4, hle, hT44, hTm, hp, hP, hE, hK]; (try (simp (disch := omega) only [wrap_i64, mul_i64, capOk_of]; (try simp [hg0, hs, hv, hd0, hd10, hl4, hle, hT44, hTm, hp, hP, hE, hK]); trace "#ScaleFewest_ok.25 w")); rfl) ?_; trace "#ScaleFewest_ok.28 T")
  | ((with_reducible refine WG.isX ?_); refine WGx.mk hΓ rfl rfl (by intro hg; (try simp at hg); simp [hg0, hs, hv, hd0, hd10, hl4, hle, hT44, hTm, hp, hP, hE, hK, hg, nth_eq, -getElem?_pos]; (try (simp (disch := omega) only [wrap_i64, mul_i64, capOk_of]; (try simp [hg0, hs, hv, hd0, hd10, hl4, hle, hT44, hTm, hp, hP, hE, hK, hg, nth_eq, -getElem?_pos]); trace "#ScaleFewest_ok.26 w")); rfl) (by simp [hg0, hs, hv, hd0, hd10, hl4, hle, hT44, hTm, hp, hP, hE, hK]; (try (simp (disch := omega) only [wrap_i64, mul_i64, capOk_of]; (try simp [hg0, hs, hv, hd0, hd10, hl4, hle, hT44, hTm, hp, hP, hE, hK]); trace "#ScaleFewest_ok.27 w")); rfl) ?_; trace "#ScaleFewest_ok.28 X")
  refine WOps.gd rfl rfl (by simp [hg0, hs, hv, hd0, hd10, hl4, hle, hT44, hTm, hp, hP, hE, hK]; (try (simp (disch := omega) only [wrap_i64, mul_i64, capOk_of]; (try simp [hg0, hs, hv, hd0, hd10, hl4, hle, hT44, hTm, hp, hP, hE, hK]); trace "#ScaleFewest_ok.29 w")); first | rfl | exact (Bool.not_not _).symm) ?_
  first
  | ((with_reducible refine WG.isF ?_); refine WGf.mk rfl (by simp [hg0, hs, hv, hd0, hd10, hl4, hle, hT44, hTm, hp, hP, hE, hK]; (try (simp (disch := omega) only [wrap_i64, mul_i64, capOk_of]; (try simp [hg0, hs, hv, hd0, hd10, hl4, hle, hT44, hTm, hp, hP, hE, hK]); trace "#ScaleFewest_ok.30 w")); rfl) ?_; trace "#ScaleFewest_ok.35 F")
  | ((with_reducible refine WG.isT ?_); refine WGt.mk hΓ rfl (by simp [hg0, hs, hv, hd0, hd10, hl4, hle, hT44, hTm, hp, hP, hE, hK]; (try (simp (disch := omega) only [wrap_i64, mul_i64, capOk_of]; (try simp [hg0, hs, hv, hd0, hd10, hl4, hle, hT44, hTm, hp, hP, hE, hK]); trace "#ScaleFewest_ok.31 w")); first | rfl | exact ⟨rfl, rfl⟩) (by simp [hg0, hs, hv, hd0, hd10, hl4, hle, hT44, hTm, hp, hP, hE, hK]; (try (simp (disch := omega) only [wrap_i64, mul_i64, capOk_of]; (try simp [hg0, hs, hv, hd0, hd10, hl4, hle, hT44, hTm, hp, hP, hE, hK]); trace "#ScaleFewest_ok.32 w")); rfl) ?_; trace "#ScaleFewest_ok.35 T")
  | ((with_reducible refine WG.isX ?_); refine WGx.mk hΓ rfl rfl (by intro hg; (try simp at hg); simp [hg0, hs, hv, hd0, hd10, hl4, hle, hT44, hTm, hp, hP, hE, hK, hg, nth_eq, -getElem?_pos]; (try (simp (disch := omega) only [wrap_i64, mul_i64, capOk_of]; (try simp [hg0, hs, hv, hd0, hd10, hl4, hle, hT44, hTm, hp, hP, hE, hK, hg, nth_eq, -getElem?_pos]); trace "#ScaleFewest_ok.33 w")); rfl) (by simp [hg0, hs, hv, hd0, hd10, hl4, hle, hT44, hTm, hp, hP, hE, hK]; (try (simp (disch := omega) only [wrap_i64, mul_i64, capOk_of]; (try simp [hg0, hs, hv, hd0, hd10, hl4, hle, hT44, hTm, hp, hP, hE, hK]); trace "#ScaleFewest_ok.34 w")); rfl) ?_; trace "#ScaleFewest_ok.35 X")
  refine WOps.n hΓ 2 (by simp [hg0, hs, hv, hd0, hd10, hl4, hle, hT44, hTm, hp, hP, hE, hK]; (try (simp (disch := omega) only [wrap_i64, mul_i64, capOk_of]; (try simp [hg0, hs, hv, hd0, hd10, hl4, hle, hT44, hTm, hp, hP, hE, hK]); trace "#ScaleFewest_ok.36 w")); first | rfl | exact ⟨rfl, rfl⟩) rfl ?_
  refine WOps.gd rfl rfl (by simp [hg0, hs, hv, hd0, hd10, hl4, hle, hT44, hTm, hp, hP, hE, hK]; (try (simp (disch := omega) only [wrap_i64, mul_i64, capOk_of]; (try simp [hg0, hs, hv, hd0, hd10, hl4, hle, hT44, hTm, hp, hP, hE, hK]); trace "#ScaleFewest_ok.37 w")); first | rfl | exact (Bool.not_not _).symm) ?_
  first
  | ((with_reducible refine WG.isF ?_); refine WGf.mk rfl (by simp [hg0, hs, hv, hd0, hd10, hl4, hle, hT44, hTm, hp, hP, hE, hK]; (try (simp (disch := omega) only [wrap_i64, mul_i64, capOk_of]; (try simp [hg0, hs, hv, hd0, hd10, hl4, hle, hT44, hTm, hp, hP, hE, hK]); trace "#ScaleFewest_ok.38 w")); rfl) ?_; trace "#ScaleFewest_ok.43 F")
  | ((with_reducible refine WG.isT ?_); refine WGt.mk hΓ rfl (by simp [hg0, hs, hv, hd0, hd10, hl4, hle, hT44, hTm, hp, hP, hE, hK]; (try (simp (disch := omega) only [wrap_i64, mul_i64, capOk_of]; (try simp [hg0, hs, hv, hd0, hd10, hl4, hle, hT44, hTm, hp, hP, hE, hK]); trace "#ScaleFewest_ok.39 w")); first | rfl | exact ⟨rfl, rfl⟩) (by simp [hg0, hs, hv, hd0, hd10, hl4, hle, hT44, hTm, hp, hP, hE, hK]; (try (simp (disch := omega) only [wrap_i64, mul_i64, capOk_of]; (try simp [hg0, hs, hv, hd0, hd10, hl4, hle, hT44, hTm, hp, hP, hE, hK]); trace "#ScaleFewest_ok.40 w")); rfl) ?_; trace "#ScaleFewest_ok.43 T")
  | ((with_reducible refine WG.isX ?_); refine WGx.mk hΓ rfl rfl (by intro hg; (try simp at hg); simp [hg0, hs, hv, hd0, hd10, hl4, hle, hT44, hTm, hp, hP, hE, hK, hg, nth_eq, -getElem?_pos]; (try (simp (disch := omega) only [wrap_i64, mul_i64, capOk_of]; (try simp [hg0, hs, hv, hd0, hd10, hl4, hle, hT44, hTm, hp, hP, hE, hK, hg, nth_eq, -getElem?_pos]); trace "#ScaleFewest_ok.41 w")); rfl) (by simp [hg0, hs, hv, hd0, hd10, hl4, hle, hT44, hTm, hp, hP, hE, hK]; (try (simp (disch := omega) only [wrap_i64, mul_i64, capOk_of]; (try simp [hg0, hs, hv, hd0, hd10, hl4, hle, hT44, hTm, hp, hP, hE, hK]); trace "#ScaleFewest_ok.42 w")); rfl) ?_; trace "#ScaleFewest_ok.43 X")
  refine WOps.gd rfl rfl (by simp [hg0, hs, hv, hd0, hd10, hl4, hle, hT44, hTm, hp, hP, hE, hK]; (try (simp (disch := omega) only [wrap_i64, mul_i64, capOk_of]; (try simp [hg0, hs, hv, hd0, hd10, hl4, hle, hT44, hTm, hp, hP, hE, hK]); trace "#ScaleFewest_ok.44 w")); first | rfl | exact (Bool.not_not _).symm) ?_
  first
  | ((with_reducible refine WG.isF ?_); refine WGf.mk rfl (by simp [hg0, hs, hv, hd0, hd10, hl4, hle, hT44, hTm, hp, hP, hE, hK]; (try (simp (disch := omega) only [wrap_i64, mul_i64, capOk_of]; (try simp [hg0, hs, hv, hd0, hd10, hl4, hle, hT44, hTm, hp, hP, hE, hK]); trace "#ScaleFewest_ok.45 w")); rfl) ?_; trace "#ScaleFewest_ok.50 F")
  | ((with_reducible refine WG.isT ?_); refine WGt.mk hΓ rfl (by simp [hg0, hs, hv, hd0, hd10, hl4, hle, hT44, hTm, hp, hP, hE, hK]; (try (simp (disch := omega) only [wrap_i64, mul_i64, capOk_of]; (try simp [hg0, hs, hv, hd0, hd10, hl4, hle, hT44, hTm, hp, hP, hE, hK]); trace "#ScaleFewest_ok.46 w")); first | rfl | exact ⟨rfl, rfl⟩) (by simp [hg0, hs, hv, hd0, hd10, hl4, hle, hT44, hTm, hp, hP, hE, hK]; (try (simp (disch := omega) only [wrap_i64, mul_i64, capOk_of]; (try simp [hg0, hs, hv, hd0, hd10, hl4, hle, hT44, hTm, hp, hP, hE, hK]); trace "#ScaleFewest_ok.47 w")); rfl) ?_; trace "#ScaleFewest_ok.50 T")
  | ((with_reducible refine WG.isX ?_); refine WGx.mk hΓ rfl rfl (by intro hg; (try simp at hg); simp [hg0, hs, hv, hd0, hd10, hl4, hle, hT44, hTm, hp, hP, hE, hK, hg, nth_eq, -getElem?_pos]; (try (simp (disch := omega) only [wrap_i64, mul_i64, capOk_of]; (try simp [hg0, hs, hv, hd0, hd10, hl4, hle, hT44, hTm, hp, hP, hE, hK, hg, nth_eq, -getElem?_pos]); trace "#ScaleFewest_ok.48 w")); rfl) (by simp [hg0, hs, hv, hd0, hd10, hl4, hle, hT44, hTm, hp, hP, hE, hK]; (try (simp (disch := omega) only [wrap_i64, mul_i64, capOk_of]; (try simp [hg0, hs, hv, hd0, hd10, hl4, hle, hT44, hTm, hp, hP, hE, hK]); trace "#ScaleFewest_ok.49 w")); rfl) ?_; trace "#ScaleFewest_ok.50 X")
  refine WOps.gd rfl rfl (by simp [hg0, hs, hv, hd0, hd10, hl4, hle, hT44, hTm, hp, hP, hE, hK]; (try (simp (disch := omega) only [wrap_i64, mul_i64, capOk_of]; (try simp [hg0, hs, hv, hd0, hd10, hl4, hle, hT44, hTm, hp, hP, hE, hK]); trace "#ScaleFewest_ok.51 w")); first | rfl | exact (Bool.not_not _).symm) ?_
  first
  | ((with_reducible refine WG.isF ?_); refine WGf.mk rfl (by simp [hg0, hs, hv, hd0, hd10, hl4, hle, hT44, hTm, hp, hP, hE, hK]; (try (simp (disch := omega) only [wrap_i64, mul_i64, capOk_of]; (try simp [hg0, hs, hv, hd0, hd10, hl4, hle, hT44, hTm, hp, hP, hE, hK]); trace "#ScaleFewest_ok.52 w")); rfl) ?_; trace "#ScaleFewest_ok.57 F")
  | ((with_reducible refine WG.isT ?_); refine WGt.mk hΓ rfl (by simp [hg0, hs, hv, hd0, hd10, hl4, hle, hT44, hTm, hp, hP, hE, hK]; (try (simp (disch := omega) only [wrap_i64, mul_i64, capOk_of]; (try simp [hg0, hs, hv, hd0, hd10, hl4, hle, hT44, hTm, hp, hP, hE, hK]); trace "#ScaleFewest_ok.53 w")); first | rfl | exact ⟨rfl, rfl⟩) (by simp [hg0, hs, hv, hd0, hd10, hl4, hle, hT44, hTm, hp, hP, hE, hK]; (try (simp (disch := omega) only [wrap_i64, mul_i64, capOk_of]; (try simp [hg0, hs, hv, hd0, hd10, hl4, hle, hT44, hTm, hp, hP, hE, hK]); trace "#ScaleFewest_ok.54 w")); rfl) ?_; trace "#ScaleFewest_ok.57 T")
  | ((with_reducible refine WG.isX ?_); refine WGx.mk hΓ rfl rfl (by intro hg; (try simp at hg); simp [hg0, hs, hv, hd0, hd10, hl4, hle, hT44, hTm, hp, hP, hE, hK, hg, nth_eq, -getElem?_pos]; (try (simp (disch := omega) only [wrap_i64, mul_i64, capOk_of]; (try simp [hg0, hs, hv, hd0, hd10, hl4, hle, hT44, hTm, hp, hP, hE, hK, hg, nth_eq, -getElem?_pos]); trace "#ScaleFewest_ok.55 w")); rfl) (by simp [hg0, hs, hv, hd0, hd10, hl4, hle, hT44, hTm, hp, hP, hE, hK]; (try (simp (disch := omega) only [wrap_i64, mul_i64, capOk_of]; (try simp [hg0, hs, hv, hd0, hd10, hl4, hle, hT44, hTm, hp, hP, hE, hK]); trace "#ScaleFewest_ok.56 w")); rfl) ?_; trace "#ScaleFewest_ok.57 X")
  refine WOps.gd rfl rfl (by simp [hg0, hs, hv, hd0, hd10, hl4, hle, hT44, hTm, hp, hP, hE, hK]; (try (simp (disch := omega) only [wrap_i64, mul_i64, capOk_of]; (try simp [hg0, hs, hv, hd0, hd10, hl4, hle, hT44, hTm, hp, hP, hE, hK]); trace "#ScaleFewest_ok.58 w")); first | rfl | exact (Bool.not_not _).symm) ?_
  first
  | ((with_reducible refine WG.isF ?_); refine WGf.mk rfl (by simp [hg0, hs, hv, hd0, hd10, hl4, hle, hT44, hTm, hp, hP, hE, hK]; (try (simp (disch := omega) only [wrap_i64, mul_i64, capOk_of]; (try simp [hg0, hs, hv, hd0, hd10, hl4, hle, hT44, hTm, hp, hP, hE, hK]); trace "#ScaleFewest_ok.59 w")); rfl) ?_; trace "#ScaleFewest_ok.64 F")
  | ((with_reducible refine WG.isT ?_); refine WGt.mk hΓ rfl (by simp [hg0, hs, hv, hd0, hd10, hl4, hle, hT44, hTm, hp, hP, hE, hK]; (try (simp (disch := omega) only [wrap_i64, mul_i64, capOk_of]; (try simp [hg0, hs, hv, hd0, hd10, hl4, hle, hT44, hTm, hp, hP, hE, hK]); trace "#ScaleFewest_ok.60 w")); first | rfl | exact ⟨rfl, rfl⟩) (by simp [hg0, hs, hv, hd0, hd10, hl4, hle, hT44, hTm, hp, hP, hE, hK]; (try (simp (disch := omega) only [wrap_i64, mul_i64, capOk_of]; (try simp [hg0, hs, hv, hd0, hd10, hl4, hle, hT44, hTm, hp, hP, hE, hK]); trace "#ScaleFewest_ok.61 w")); rfl) ?_; trace "#ScaleFewest_ok.64 T")
  | ((with_reducible refine WG.isX ?_); refine WGx.mk hΓ rfl rfl (by intro hg; (try simp at hg); simp [hg0, hs, hv, hd0, hd10, hl4, hle, hT44, hTm, hp, hP, hE, hK, hg, nth_eq, -getElem?_pos]; (try (simp (disch := omega) only [wrap_i64, mul_i64, capOk_of]; (try simp [hg0, hs, hv, hd0, hd10, hl4, hle, hT44, hTm, hp, hP, hE, hK, hg, nth_eq, -getElem?_pos]); trace "#ScaleFewest_ok.62 w")); rfl) (by simp [hg0, hs, hv, hd0, hd10, hl4, hle, hT44, hTm, hp, hP, hE, hK]; (try (simp (disch := omega) only [wrap_i64, mul_i64, capOk_of]; (try simp [hg0, hs, hv, hd0, hd10, hl4, hle, hT44, hTm, hp, hP, hE, hK]); trace "#ScaleFewest_ok.63 w")); rfl) ?_; trace "#ScaleFewest_ok.64 X")
  refine WOps.gd rfl rfl (by simp [hg0, hs, hv, hd0, hd10, hl4, hle, hT44, hTm, hp, hP, hE, hK]; (try (simp (disch := omega) only [wrap_i64, mul_i64, capOk_of]; (try simp [hg0, hs, hv, hd0, hd10, hl4, hle, hT44, hTm, hp, hP, hE, hK]); trace "#ScaleFewest_ok.65 w")); first | rfl | exact (Bool.not_not _).symm) ?_
  first
  | ((with_reducible refine WG.isF ?_); refine WGf.mk rfl (by simp [hg0, hs, hv, hd0, hd10, hl4, hle, hT44, hTm, hp, hP, hE, hK]; (try (simp (disch := omega) only [wrap_i64, mul_i64, capOk_of]; (try simp [hg0, hs, hv, hd0, hd10, hl4, hle, hT44, hTm, hp, hP, hE, hK]); trace "#ScaleFewest_ok.66 w")); rfl) ?_; trace "#ScaleFewest_ok.71 F")
  | ((with_reducible refine WG.isT ?_); refine WGt.mk hΓ rfl (by simp [hg0, hs, hv, hd0, hd10, hl4, hle, hT44, hTm, hp, hP, hE, hK]; (try (simp (disch := omega) only [wrap_i64, mul_i64, capOk_of]; (try simp [hg0, hs, hv, hd0, hd10, hl4, hle, hT44, hTm, hp, hP, hE, hK]); trace "#ScaleFewest_ok.67 w")); first | rfl | exact ⟨rfl, rfl⟩) (by simp [hg0, hs, hv, hd0, hd10, hl4, hle, hT44, hTm, hp, hP, hE, hK]; (try (simp (disch := omega) only [wrap_i64, mul_i64, capOk_of]; (try simp [hg0, hs, hv, hd0, hd10, hl4, hle, hT44, hTm, hp, hP, hE, hK]); trace "#ScaleFewest_ok.68 w")); rfl) ?_; trace "#ScaleFewest_ok.71 T")
  | ((with_reducible refine WG.isX ?_); refine WGx.mk hΓ rfl rfl (by intro hg; (try simp at hg); simp [hg0, hs, hv, hd0, hd10, hl4, hle, hT44, hTm, hp, hP, hE, hK, hg, nth_eq, -getElem?_pos]; (try (simp (disch := omega) only [wrap_i64, mul_i64, capOk_of]; (try simp [hg0, hs, hv, hd0, hd10, hl4, hle, hT44, hTm, hp, hP, hE, hK, hg, nth_eq, -getElem?_pos]); trace "#ScaleFewest_ok.69 w")); rfl) (by simp [hg0, hs, hv, hd0, hd10, hl4, hle, hT44, hTm, hp, hP, hE, hK]; (try (simp (disch := omega) only [wrap_i64, mul_i64, capOk_of]; (try simp [hg0, hs, hv, hd0, hd10, hl4, hle, hT44, hTm, hp, hP, hE, hK]); trace "#ScaleFewest_ok.70 w")); rfl) ?_; trace "#ScaleFewest_ok.71 X")
  refine WOps.gd rfl rfl (by simp [hg0, hs, hv, hd0, hd10, hl4, hle, hT44, hTm, hp, hP, hE, hK]; (try (simp (disch := omega) only [wrap_i64, mul_i64, capOk_of]; (try simp [hg0, hs, hv, hd0, hd10, hl4, hle, hT44, hTm, hp, hP, hE, hK]); trace "#ScaleFewest_ok.72 w")); first | rfl | exact (Bool.not_not _).symm) ?_
  first
  | ((with_reducible refine WG.isF ?_); refine WGf.mk rfl (by simp [hg0, hs, hv, hd0, hd10, hl4, hle, hT44, hTm, hp, hP, hE, hK]; (try (simp (disch := omega) only [wrap_i64, mul_i64, capOk_of]; (try simp [hg0, hs, hv, hd0, hd10, hl4, hle, hT44, hTm, hp, hP, hE, hK]); trace "#ScaleFewest_ok.73 w")); rfl) ?_; trace "#ScaleFewest_ok.81 F")
  | (
    (with_reducible refine WG.isT ?_)
    refine WGt.call rfl rfl rfl [] rfl rfl (by decide) (by simp [hg0, hs, hv, hd0, hd10, hl4, hle, hT44, hTm, hp, hP, hE, hK]; (try (simp (disch := omega) only [wrap_i64, mul_i64, capOk_of]; (try simp [hg0, hs, hv, hd0, hd10, hl4, hle, hT44, hTm, hp, hP, hE, hK]); trace "#ScaleFewest_ok.74 w")); first | rfl | exact ⟨rfl, rfl⟩) (by simp [hg0, hs, hv, hd0, hd10, hl4, hle, hT44, hTm, hp, hP, hE, hK]; (try (simp (disch := omega) only [wrap_i64, mul_i64, capOk_of]; (try simp [hg0, hs, hv, hd0, hd10, hl4, hle, hT44, hTm, hp, hP, hE, hK]); trace "#ScaleFewest_ok.75 w")); rfl) ?_
    refine CallT.mk (sealed_ok s hv p qdl qdd) (by simp [hg0, hs, hv, hd0, hd10, hl4, hle, hT44, hTm, hp, hP, hE, hK]; (try (simp (disch := omega) only [wrap_i64, mul_i64, capOk_of]; (try simp [hg0, hs, hv, hd0, hd10, hl4, hle, hT44, hTm, hp, hP, hE, hK]); trace "#ScaleFewest_ok.76 w"))) ?_
    refine WOps.norm (by simp [hg0, hs, hv, hd0, hd10, hl4, hle, hT44, hTm, hp, hP, hE, hK]; (try (simp (disch := omega) only [wrap_i64, mul_i64, capOk_of]; (try simp [hg0, hs, hv, hd0, hd10, hl4, hle, hT44, hTm, hp, hP, hE, hK]); trace "#ScaleFewest_ok.77 w")); rfl) ?_; trace "#ScaleFewest_ok.81 T"
    )
  | ((with_reducible refine WG.isX ?_); refine WGx.call rfl rfl rfl (by decide) (by intro hg; (try simp at hg); exact ⟨_, _, _, _, rfl, (by simp [hg0, hs, hv, hd0, hd10, hl4, hle, hT44, hTm, hp, hP, hE, hK, hg, nth_eq, -getElem?_pos]; (try (simp (disch := omega) only [wrap_i64, mul_i64, capOk_of]; (try simp [hg0, hs, hv, hd0, hd10, hl4, hle, hT44, hTm, hp, hP, hE, hK, hg, nth_eq, -getElem?_pos]); trace "#ScaleFewest_ok.78 w")); first | rfl | exact ⟨rfl, rfl⟩), (by exact sealed_ok s hv p qdl qdd), (by simp [hg0, hs, hv, hd0, hd10, hl4, hle, hT44, hTm, hp, hP, hE, hK, hg]; (try (simp (disch := omega) only [wrap_i64, mul_i64, capOk_of]; (try simp [hg0, hs, hv, hd0, hd10, hl4, hle, hT44, hTm, hp, hP, hE, hK, hg]); trace "#ScaleFewest_ok.79 w"))), by rfl⟩) (by simp [hg0, hs, hv, hd0, hd10, hl4, hle, hT44, hTm, hp, hP, hE, hK]; (try (simp (disch := omega) only [wrap_i64, mul_i64, capOk_of]; (try simp [hg0, hs, hv, hd0, hd10, hl4, hle, hT44, hTm, hp, hP, hE, hK]); trace "#ScaleFewest_ok.80 w")); rfl) ?_; trace "#ScaleFewest_ok.81 X")
  refine WOps.gd rfl rfl (by simp [hg0, hs, hv, hd0, hd10, hl4, hle, hT44, hTm, hp, hP, hE, hK]; (try (simp (disch := omega) only [wrap_i64, mul_i64, capOk_of]; (try simp [hg0, hs, hv, hd0, hd10, hl4, hle, hT44, hTm, hp, hP, hE, hK]); trace "#ScaleFewest_ok.82 w")); first | rfl | exact (Bool.not_not _).symm) ?_
  first
  | ((with_reducible refine WG.isF ?_); refine WGf.mk rfl (by simp [hg0, hs, hv, hd0, hd10, hl4, hle, hT44, hTm, hp, hP, hE, hK]; (try (simp (disch := omega) only [wrap_i64, mul_i64, capOk_of]; (try simp [hg0, hs, hv, hd0, hd10, hl4, hle, hT44, hTm, hp, hP, hE, hK]); trace "#ScaleFewest_ok.83 w")); rfl) ?_; trace "#ScaleFewest_ok.88 F")
  | ((with_reducible refine WG.isT ?_); refine WGt.mk hΓ rfl (by simp [hg0, hs, hv, hd0, hd10, hl4, hle, hT44, hTm, hp, hP, hE, hK]; (try (simp (disch := omega) only [wrap_i64, mul_i64, capOk_of]; (try simp [hg0, hs, hv, hd0, hd10, hl4, hle, hT44, hTm, hp, hP, hE, hK]); trace "#ScaleFewest_ok.84 w")); first | rfl | exact ⟨rfl, rfl⟩) (by simp [hg0, hs, hv, hd0, hd10, hl4, hle, hT44, hTm, hp, hP, hE, hK]; (try (simp (disch := omega) only [wrap_i64, mul_i64, capOk_of]; (try simp [hg0, hs, hv, hd0, hd10, hl4, hle, hT44, hTm, hp, hP, hE, hK]); trace "#ScaleFewest_ok.85 w")); rfl) ?_; trace "#ScaleFewest_ok.88 T")
  | ((with_reducible refine WG.isX ?_); refine WGx.mk hΓ rfl rfl (by intro hg; (try simp at hg); simp [hg0, hs, hv, hd0, hd10, hl4, hle, hT44, hTm, hp, hP, hE, hK, hg, nth_eq, -getElem?_pos]; (try (simp (disch := omega) only [wrap_i64, mul_i64, capOk_of]; (try simp [hg0, hs, hv, hd0, hd10, hl4, hle, hT44, hTm, hp, hP, hE, hK, hg, nth_eq, -getElem?_pos]); trace "#ScaleFewest_ok.86 w")); rfl) (by simp [hg0, hs, hv, hd0, hd10, hl4, hle, hT44, hTm, hp, hP, hE, hK]; (try (simp (disch := omega) only [wrap_i64, mul_i64, capOk_of]; (try simp [hg0, hs, hv, hd0, hd10, hl4, hle, hT44, hTm, hp, hP, hE, hK]); trace "#ScaleFewest_ok.87 w")); rfl) ?_; trace "#ScaleFewest_ok.88 X")
  refine WOps.gd rfl rfl (by simp [hg0, hs, hv, hd0, hd10, hl4, hle, hT44, hTm, hp, hP, hE, hK]; (try (simp (disch := omega) only [wrap_i64, mul_i64, capOk_of]; (try simp [hg0, hs, hv, hd0, hd10, hl4, hle, hT44, hTm, hp, hP, hE, hK]); trace "#ScaleFewest_ok.89 w")); first | rfl | exact (Bool.not_not _).symm) ?_
  first
  | ((with_reducible refine WG.isF ?_); refine WGf.mk rfl (by simp [hg0, hs, hv, hd0, hd10, hl4, hle, hT44, hTm, hp, hP, hE, hK]; (try (simp (disch := omega) only [wrap_i64, mul_i64, capOk_of]; (try simp [hg0, hs, hv, hd0, hd10, hl4, hle, hT44, hTm, hp, hP, hE, hK]); trace "#ScaleFewest_ok.90 w")); rfl) ?_; trace "#ScaleFewest_ok.95 F")
  | ((with_reducible refine WG.isT ?_); refine WGt.mk hΓ rfl (by simp [hg0, hs, hv, hd0, hd10, hl4, hle, hT44, hTm, hp, hP, hE, hK]; (try (simp (disch := omega) only [wrap_i64, mul_i64, capOk_of]; (try simp [hg0, hs, hv, hd0, hd10, hl4, hle, hT44, hTm, hp, hP, hE, hK]); trace "#ScaleFewest_ok.91 w")); first | rfl | exact ⟨rfl, rfl⟩) (by simp [hg0, hs, hv, hd0, hd10, hl4, hle, hT44, hTm, hp, hP, hE, hK]; (try (simp (disch := omega) only [wrap_i64, mul_i64, capOk_of]; (try simp [hg0, hs, hv, hd0, hd10, hl4, hle, hT44, hTm, hp, hP, hE, hK]); trace "#ScaleFewest_ok.92 w")); rfl) ?_; trace "#ScaleFewest_ok.95 T")
  | ((with_reducible refine WG.isX ?_); refine WGx.mk hΓ rfl rfl (by intro hg; (try simp at hg); simp [hg0, hs, hv, hd0, hd10, hl4, hle, hT44, hTm, hp, hP, hE, hK, hg, nth_eq, -getElem?_pos]; (try (simp (disch := omega) only [wrap_i64, mul_i64, capOk_of]; (try simp [hg0, hs, hv, hd0, hd10, hl4, hle, hT44, hTm, hp, hP, hE, hK, hg, nth_eq, -getElem?_pos]); trace "#ScaleFewest_ok.93 w")); rfl) (by simp [hg0, hs, hv, hd0, hd10, hl4, hle, hT44, hTm, hp, hP, hE, hK]; (try (simp (disch := omega) only [wrap_i64, mul_i64, capOk_of]; (try simp [hg0, hs, hv, hd0, hd10, hl4, hle, hT44, hTm, hp, hP, hE, hK]); trace "#ScaleFewest_ok.94 w")); rfl) ?_; trace "#ScaleFewest_ok.95 X")
  refine WOps.n hΓ 1 (by simp [hg0, hs, hv, hd0, hd10, hl4, hle, hT44, hTm, hp, hP, hE, hK]; (try (simp (disch := omega) only [wrap_i64, mul_i64, capOk_of]; (try simp [hg0, hs, hv, hd0, hd10, hl4, hle, hT44, hTm, hp, hP, hE, hK]); trace "#ScaleFewest_ok.96 w")); first | rfl | exact ⟨rfl, rfl⟩) rfl ?_
  refine WOps.endK ?_
  refine W.keep [3, 4, 5, 32] (by simp [hg0, hs, hv, hd0, hd10, hl4, hle, hT44, hTm, hp, hP, hE, hK]; (try (simp (disch := omega) only [wrap_i64, mul_i64, capOk_of]; (try simp [hg0, hs, hv, hd0, hd10, hl4, hle, hT44, hTm, hp, hP, hE, hK]); trace "#ScaleFewest_ok.97 w")); rfl) ?_
  refine W.cond (t := false) (by simp [hg0, hs, hv, hd0, hd10, hl4, hle, hT44, hTm, hp, hP, hE, hK]; (try (simp (disch := omega) only [wrap_i64, mul_i64, capOk_of]; (try simp [hg0, hs, hv, hd0, hd10, hl4, hle, hT44, hTm, hp, hP, hE, hK]); trace "#ScaleFewest_ok.98 w"))) ?_
  simp only [if_true,Bool.false_eq_true,if_false]
  refine W.skip ?_
  refine hK1 _ ?_
  clear hK1 K1
  refine W.seqk fun K2 hK2=>?_
  refine W.regK hΓ [3, 4, 5, 6] (by simp [hg0, hs, hv, hd0, hd10, hl4, hle, hT44, hTm, hp, hP, hE, hK]; (try (simp (disch := omega) only [wrap_i64, mul_i64, capOk_of]; (try simp [hg0, hs, hv, hd0, hd10, hl4, hle, hT44, hTm, hp, hP, hE, hK]); trace "#ScaleFewest_ok.99 w")); rfl) ?_
  refine W.block ?_
  refine W.loopU (α := Nat) [3, 4, 5] [39, 47, 56, 59] [] (fun n => [(6, I n)]) (fun n => []) (fun n => n ≤ T + 1 ∧ ∀ m, m < n → (betP s m []).2 = false) (fun n => T + 1 - n) 0 rfl (by simp [hg0, hs, hv, hd0, hd10, hl4, hle, hT44, hTm, hp, hP, hE, hK]; (try (simp (disch := omega) only [wrap_i64, mul_i64, capOk_of]; (try simp [hg0, hs, hv, hd0, hd10, hl4, hle, hT44, hTm, hp, hP, hE, hK]); trace "#ScaleFewest_ok.100 w")); rfl) (by simp [hg0, hs, hv, hd0, hd10, hl4, hle, hT44, hTm, hp, hP, hE, hK]; (try (simp (disch := omega) only [wrap_i64, mul_i64, capOk_of]; (try simp [hg0, hs, hv, hd0, hd10, hl4, hle, hT44, hTm, hp, hP, hE, hK]); trace "#ScaleFewest_ok.101 w")); rfl) (Le.fit (by simp [hg0, hs, hv, hd0, hd10, hl4, hle, hT44, hTm, hp, hP, hE, hK]; (try (simp (disch := omega) only [wrap_i64, mul_i64, capOk_of]; (try simp [hg0, hs, hv, hd0, hd10, hl4, hle, hT44, hTm, hp, hP, hE, hK]); trace "#ScaleFewest_ok.102 w")); rfl) (by rfl) (by rfl) (by rfl) ?_ ?_) ?_ ?_
  ·
   try (simp [hg0, hs, hv, hd0, hd10, hl4, hle, hT44, hTm, hp, hP, hE, hK]; (try (simp (disch := omega) only [wrap_i64, mul_i64, capOk_of]; (try simp [hg0, hs, hv, hd0, hd10, hl4, hle, hT44, hTm, hp, hP, hE, hK]); trace "#ScaleFewest_ok.103 w")))
   all_goals (
    first
      | (first | done | omega | (simp_all;done) | (simp_all;omega))
      | (trace "VC 1 init.tmps"; trace_state; sorry)
   )
  ·
   try (simp [hg0, hs, hv, hd0, hd10, hl4, hle, hT44, hTm, hp, hP, hE, hK]; (try (simp (disch := omega) only [wrap_i64, mul_i64, capOk_of]; (try simp [hg0, hs, hv, hd0, hd10, hl4, hle, hT44, hTm, hp, hP, hE, hK]); trace "#ScaleFewest_ok.104 w")))
   all_goals (
    first
      | (first | done | omega | (simp_all;done) | (simp_all;omega))
      | (trace "VC 2 init.objs"; trace_state; sorry)
   )
  ·
   first
     | (first | done | omega | (simp_all;done) | (simp_all;omega))
     | (trace "VC 3 init.inv"; trace_state; sorry)
  ·
   intro n hI0
   simp only [List.cons_append,List.nil_append]
   try dsimp only at hI0
   obtain ⟨hn,kb⟩:=hI0
   refine W.seqk fun K3 hK3=>?_
   refine W.regK hΓ [3, 4, 5, 6, 41] (by simp [hg0, hs, hv, hd0, hd10, hl4, hle, hT44, hTm, hp, hP, hE, hK, hn]; (try (simp (disch := omega) only [wrap_i64, mul_i64, capOk_of]; (try simp [hg0, hs, hv, hd0, hd10, hl4, hle, hT44, hTm, hp, hP, hE, hK, hn]); trace "#ScaleFewest_ok.105 w")); rfl) ?_
   refine W.ite (by simp [hg0, hs, hv, hd0, hd10, hl4, hle, hT44, hTm, hp, hP, hE, hK, hn]; (try (simp (disch := omega) only [wrap_i64, mul_i64, capOk_of]; (try simp [hg0, hs, hv, hd0, hd10, hl4, hle, hT44, hTm, hp, hP, hE, hK, hn]); trace "#ScaleFewest_ok.106 w")); first | rfl | exact (Bool.not_not _).symm) (fun hc2 => ?_) (fun hc2 => ?_)
   ·
    try simp at hc2
    refine W.skip ?_
    refine hK3 _ ?_
    clear hK3 K3
    refine W.seqk fun K4 hK4=>?_
    refine W.block ?_
    have hn44:n≤44:=by omega
    have qbt:=search_ok s hv n [] (psOk0 s) (by omega)
    have qba:=@bet_at s hv n kb
    obtain ⟨Q,qQ⟩:∃Q,betP s n []=Q:=⟨_,rfl⟩
    rw [qQ] at qbt qba
    refine W.seqR ?_
    refine WOps.n hΓ 2 (by simp [hg0, hs, hv, hd0, hd10, hl4, hle, hT44, hTm, hp, hP, hE, hK, hn, hc2, hn44]; (try (simp (disch := omega) only [wrap_i64, mul_i64, capOk_of]; (try simp [hg0, hs, hv, hd0, hd10, hl4, hle, hT44, hTm, hp, hP, hE, hK, hn, hc2, hn44]); trace "#ScaleFewest_ok.107 w")); first | rfl | exact ⟨rfl, rfl⟩) rfl ?_
    refine WOps.call rfl rfl rfl rfl [] rfl rfl (by decide) (by simp [hg0, hs, hv, hd0, hd10, hl4, hle, hT44, hTm, hp, hP, hE, hK, hn, hc2, hn44]; (try (simp (disch := omega) only [wrap_i64, mul_i64, capOk_of]; (try simp [hg0, hs, hv, hd0, hd10, hl4, hle, hT44, hTm, hp, hP, hE, hK, hn, hc2, hn44]); trace "#ScaleFewest_ok.108 w")); first | rfl | exact ⟨rfl, rfl⟩) (by simp [hg0, hs, hv, hd0, hd10, hl4, hle, hT44, hTm, hp, hP, hE, hK, hn, hc2, hn44]; (try (simp (disch := omega) only [wrap_i64, mul_i64, capOk_of]; (try simp [hg0, hs, hv, hd0, hd10, hl4, hle, hT44, hTm, hp, hP, hE, hK, hn, hc2, hn44]); trace "#ScaleFewest_ok.109 w")); rfl) ?_
    refine CallT.mk (qbt) (by simp [hg0, hs, hv, hd0, hd10, hl4, hle, hT44, hTm, hp, hP, hE, hK, hn, hc2, hn44]; (try (simp (disch := omega) only [wrap_i64, mul_i64, capOk_of]; (try simp [hg0, hs, hv, hd0, hd10, hl4, hle, hT44, hTm, hp, hP, hE, hK, hn, hc2, hn44]); trace "#ScaleFewest_ok.110 w"))) ?_
    refine WOps.norm (by simp [hg0, hs, hv, hd0, hd10, hl4, hle, hT44, hTm, hp, hP, hE, hK, hn, hc2, hn44]; (try (simp (disch := omega) only [wrap_i64, mul_i64, capOk_of]; (try simp [hg0, hs, hv, hd0, hd10, hl4, hle, hT44, hTm, hp, hP, hE, hK, hn, hc2, hn44]); trace "#ScaleFewest_ok.111 w")); rfl) ?_
    refine WOps.n hΓ 5 (by simp [hg0, hs, hv, hd0, hd10, hl4, hle, hT44, hTm, hp, hP, hE, hK, hn, hc2, hn44]; (try (simp (disch := omega) only [wrap_i64, mul_i64, capOk_of]; (try simp [hg0, hs, hv, hd0, hd10, hl4, hle, hT44, hTm, hp, hP, hE, hK, hn, hc2, hn44]); trace "#ScaleFewest_ok.112 w")); first | rfl | exact ⟨rfl, rfl⟩) rfl ?_
    refine WOps.endK ?_
    refine W.keep [3, 4, 5, 6, 7, 8] (by simp [hg0, hs, hv, hd0, hd10, hl4, hle, hT44, hTm, hp, hP, hE, hK, hn, hc2, hn44]; (try (simp (disch := omega) only [wrap_i64, mul_i64, capOk_of]; (try simp [hg0, hs, hv, hd0, hd10, hl4, hle, hT44, hTm, hp, hP, hE, hK, hn, hc2, hn44]); trace "#ScaleFewest_ok.113 w")); rfl) ?_
    by_cases hQ:Q.2=true
    ·
     have qPP:=(qba hQ).1
     have hQp:Q.1=p:=by rw [(qba hQ).2,←qp,(planL_yes hv qPP).1]
     refine W.regK hΓ [3, 4, 5, 6, 7, 50] (by simp [hg0, hs, hv, hd0, hd10, hl4, hle, hT44, hTm, hp, hP, hE, hK, hn, hc2, hn44, hQ, hQp]; (try (simp (disch := omega) only [wrap_i64, mul_i64, capOk_of]; (try simp [hg0, hs, hv, hd0, hd10, hl4, hle, hT44, hTm, hp, hP, hE, hK, hn, hc2, hn44, hQ, hQp]); trace "#ScaleFewest_ok.114 w")); rfl) ?_
     refine W.cond (t := true) (by simp [hg0, hs, hv, hd0, hd10, hl4, hle, hT44, hTm, hp, hP, hE, hK, hn, hc2, hn44, hQ, hQp]; (try (simp (disch := omega) only [wrap_i64, mul_i64, capOk_of]; (try simp [hg0, hs, hv, hd0, hd10, hl4, hle, hT44, hTm, hp, hP, hE, hK, hn, hc2, hn44, hQ, hQp]); trace "#ScaleFewest_ok.115 w"))) ?_
     simp only [if_true,Bool.false_eq_true,if_false]
     refine W.seqR ?_
     refine WOps.n hΓ 3 (by simp [hg0, hs, hv, hd0, hd10, hl4, hle, hT44, hTm, hp, hP, hE, hK, hn, hc2, hn44, hQ, hQp]; (try (simp (disch := omega) only [wrap_i64, mul_i64, capOk_of]; (try simp [hg0, hs, hv, hd0, hd10, hl4, hle, hT44, hTm, hp, hP, hE, hK, hn, hc2, hn44, hQ, hQp]); trace "#ScaleFewest_ok.116 w")); first | rfl | exact ⟨rfl, rfl⟩) rfl ?_
     refine WOps.gd rfl rfl (by simp [hg0, hs, hv, hd0, hd10, hl4, hle, hT44, hTm, hp, hP, hE, hK, hn, hc2, hn44, hQ, hQp]; (try (simp (disch := omega) only [wrap_i64, mul_i64, capOk_of]; (try simp [hg0, hs, hv, hd0, hd10, hl4, hle, hT44, hTm, hp, hP, hE, hK, hn, hc2, hn44, hQ, hQp]); trace "#ScaleFewest_ok.117 w")); first | rfl | exact (Bool.not_not _).symm) ?_
     first
     | ((with_reducible refine WG.isF ?_); refine WGf.mk rfl (by simp [hg0, hs, hv, hd0, hd10, hl4, hle, hT44, hTm, hp, hP, hE, hK, hn, hc2, hn44, hQ, hQp]; (try (simp (disch := omega) only [wrap_i64, mul_i64, capOk_of]; (try simp [hg0, hs, hv, hd0, hd10, hl4, hle, hT44, hTm, hp, hP, hE, hK, hn, hc2, hn44, hQ, hQp]); trace "#ScaleFewest_ok.118 w")); rfl) ?_; trace "#ScaleFewest_ok.123 F")
     | ((with_reducible refine WG.isT ?_); refine WGt.mk hΓ rfl (by simp [hg0, hs, hv, hd0, hd10, hl4, hle, hT44, hTm, hp, hP, hE, hK, hn, hc2, hn44, hQ, hQp]; (try (simp (disch := omega) only [wrap_i64, mul_i64, capOk_of]; (try simp [hg0, hs, hv, hd0, hd10, hl4, hle, hT44, hTm, hp, hP, hE, hK, hn, hc2, hn44, hQ, hQp]); trace "#ScaleFewest_ok.119 w")); first | rfl | exact ⟨rfl, rfl⟩) (by simp [hg0, hs, hv, hd0, hd10, hl4, hle, hT44, hTm, hp, hP, hE, hK, hn, hc2, hn44, hQ, hQp]; (try (simp (disch := omega) only [wrap_i64, mul_i64, capOk_of]; (try simp [hg0, hs, hv, hd0, hd10, hl4, hle, hT44, hTm, hp, hP, hE, hK, hn, hc2, hn44, hQ, hQp]); trace "#ScaleFewest_ok.120 w")); rfl) ?_; trace "#ScaleFewest_ok.123 T")
     | ((with_reducible refine WG.isX ?_); refine WGx.mk hΓ rfl rfl (by intro hg; (try simp at hg); simp [hg0, hs, hv, hd0, hd10, hl4, hle, hT44, hTm, hp, hP, hE, hK, hn, hc2, hn44, hQ, hQp, hg, nth_eq, -getElem?_pos]; (try (simp (disch := omega) only [wrap_i64, mul_i64, capOk_of]; (try simp [hg0, hs, hv, hd0, hd10, hl4, hle, hT44, hTm, hp, hP, hE, hK, hn, hc2, hn44, hQ, hQp, hg, nth_eq, -getElem?_pos]); trace "#ScaleFewest_ok.121 w")); rfl) (by simp [hg0, hs, hv, hd0, hd10, hl4, hle, hT44, hTm, hp, hP, hE, hK, hn, hc2, hn44, hQ, hQp]; (try (simp (disch := omega) only [wrap_i64, mul_i64, capOk_of]; (try simp [hg0, hs, hv, hd0, hd10, hl4, hle, hT44, hTm, hp, hP, hE, hK, hn, hc2, hn44, hQ, hQp]); trace "#ScaleFewest_ok.122 w")); rfl) ?_; trace "#ScaleFewest_ok.123 X")
     refine WOps.gd rfl rfl (by simp [hg0, hs, hv, hd0, hd10, hl4, hle, hT44, hTm, hp, hP, hE, hK, hn, hc2, hn44, hQ, hQp]; (try (simp (disch := omega) only [wrap_i64, mul_i64, capOk_of]; (try simp [hg0, hs, hv, hd0, hd10, hl4, hle, hT44, hTm, hp, hP, hE, hK, hn, hc2, hn44, hQ, hQp]); trace "#ScaleFewest_ok.124 w")); first | rfl | exact (Bool.not_not _).symm) ?_
     first
     | ((with_reducible refine WG.isF ?_); refine WGf.mk rfl (by simp [hg0, hs, hv, hd0, hd10, hl4, hle, hT44, hTm, hp, hP, hE, hK, hn, hc2, hn44, hQ, hQp]; (try (simp (disch := omega) only [wrap_i64, mul_i64, capOk_of]; (try simp [hg0, hs, hv, hd0, hd10, hl4, hle, hT44, hTm, hp, hP, hE, hK, hn, hc2, hn44, hQ, hQp]); trace "#ScaleFewest_ok.125 w")); rfl) ?_; trace "#ScaleFewest_ok.130 F")
     | ((with_reducible refine WG.isT ?_); refine WGt.mk hΓ rfl (by simp [hg0, hs, hv, hd0, hd10, hl4, hle, hT44, hTm, hp, hP, hE, hK, hn, hc2, hn44, hQ, hQp]; (try (simp (disch := omega) only [wrap_i64, mul_i64, capOk_of]; (try simp [hg0, hs, hv, hd0, hd10, hl4, hle, hT44, hTm, hp, hP, hE, hK, hn, hc2, hn44, hQ, hQp]); trace "#ScaleFewest_ok.126 w")); first | rfl | exact ⟨rfl, rfl⟩) (by simp [hg0, hs, hv, hd0, hd10, hl4, hle, hT44, hTm, hp, hP, hE, hK, hn, hc2, hn44, hQ, hQp]; (try (simp (disch := omega) only [wrap_i64, mul_i64, capOk_of]; (try simp [hg0, hs, hv, hd0, hd10, hl4, hle, hT44, hTm, hp, hP, hE, hK, hn, hc2, hn44, hQ, hQp]); trace "#ScaleFewest_ok.127 w")); rfl) ?_; trace "#ScaleFewest_ok.130 T")
     | ((with_reducible refine WG.isX ?_); refine WGx.mk hΓ rfl rfl (by intro hg; (try simp at hg); simp [hg0, hs, hv, hd0, hd10, hl4, hle, hT44, hTm, hp, hP, hE, hK, hn, hc2, hn44, hQ, hQp, hg, nth_eq, -getElem?_pos]; (try (simp (disch := omega) only [wrap_i64, mul_i64, capOk_of]; (try simp [hg0, hs, hv, hd0, hd10, hl4, hle, hT44, hTm, hp, hP, hE, hK, hn, hc2, hn44, hQ, hQp, hg, nth_eq, -getElem?_pos]); trace "#ScaleFewest_ok.128 w")); rfl) (by simp [hg0, hs, hv, hd0, hd10, hl4, hle, hT44, hTm, hp, hP, hE, hK, hn, hc2, hn44, hQ, hQp]; (try (simp (disch := omega) only [wrap_i64, mul_i64, capOk_of]; (try simp [hg0, hs, hv, hd0, hd10, hl4, hle, hT44, hTm, hp, hP, hE, hK, hn, hc2, hn44, hQ, hQp]); trace "#ScaleFewest_ok.129 w")); rfl) ?_; trace "#ScaleFewest_ok.130 X")
     refine WOps.gd rfl rfl (by simp [hg0, hs, hv, hd0, hd10, hl4, hle, hT44, hTm, hp, hP, hE, hK, hn, hc2, hn44, hQ, hQp]; (try (simp (disch := omega) only [wrap_i64, mul_i64, capOk_of]; (try simp [hg0, hs, hv, hd0, hd10, hl4, hle, hT44, hTm, hp, hP, hE, hK, hn, hc2, hn44, hQ, hQp]); trace "#ScaleFewest_ok.131 w")); first | rfl | exact (Bool.not_not _).symm) ?_
     first
     | ((with_reducible refine WG.isF ?_); refine WGf.mk rfl (by simp [hg0, hs, hv, hd0, hd10, hl4, hle, hT44, hTm, hp, hP, hE, hK, hn, hc2, hn44, hQ, hQp]; (try (simp (disch := omega) only [wrap_i64, mul_i64, capOk_of]; (try simp [hg0, hs, hv, hd0, hd10, hl4, hle, hT44, hTm, hp, hP, hE, hK, hn, hc2, hn44, hQ, hQp]); trace "#ScaleFewest_ok.132 w")); rfl) ?_; trace "#ScaleFewest_ok.140 F")
     | (
       (with_reducible refine WG.isT ?_)
       refine WGt.call rfl rfl rfl [] rfl rfl (by decide) (by simp [hg0, hs, hv, hd0, hd10, hl4, hle, hT44, hTm, hp, hP, hE, hK, hn, hc2, hn44, hQ, hQp]; (try (simp (disch := omega) only [wrap_i64, mul_i64, capOk_of]; (try simp [hg0, hs, hv, hd0, hd10, hl4, hle, hT44, hTm, hp, hP, hE, hK, hn, hc2, hn44, hQ, hQp]); trace "#ScaleFewest_ok.133 w")); first | rfl | exact ⟨rfl, rfl⟩) (by simp [hg0, hs, hv, hd0, hd10, hl4, hle, hT44, hTm, hp, hP, hE, hK, hn, hc2, hn44, hQ, hQp]; (try (simp (disch := omega) only [wrap_i64, mul_i64, capOk_of]; (try simp [hg0, hs, hv, hd0, hd10, hl4, hle, hT44, hTm, hp, hP, hE, hK, hn, hc2, hn44, hQ, hQp]); trace "#ScaleFewest_ok.134 w")); rfl) ?_
       refine CallT.mk (SameTests_ok p p) (by simp [hg0, hs, hv, hd0, hd10, hl4, hle, hT44, hTm, hp, hP, hE, hK, hn, hc2, hn44, hQ, hQp]; (try (simp (disch := omega) only [wrap_i64, mul_i64, capOk_of]; (try simp [hg0, hs, hv, hd0, hd10, hl4, hle, hT44, hTm, hp, hP, hE, hK, hn, hc2, hn44, hQ, hQp]); trace "#ScaleFewest_ok.135 w"))) ?_
       refine WOps.norm (by simp [hg0, hs, hv, hd0, hd10, hl4, hle, hT44, hTm, hp, hP, hE, hK, hn, hc2, hn44, hQ, hQp]; (try (simp (disch := omega) only [wrap_i64, mul_i64, capOk_of]; (try simp [hg0, hs, hv, hd0, hd10, hl4, hle, hT44, hTm, hp, hP, hE, hK, hn, hc2, hn44, hQ, hQp]); trace "#ScaleFewest_ok.136 w")); rfl) ?_; trace "#ScaleFewest_ok.140 T"
       )
     | ((with_reducible refine WG.isX ?_); refine WGx.call rfl rfl rfl (by decide) (by intro hg; (try simp at hg); exact ⟨_, _, _, _, rfl, (by simp [hg0, hs, hv, hd0, hd10, hl4, hle, hT44, hTm, hp, hP, hE, hK, hn, hc2, hn44, hQ, hQp, hg, nth_eq, -getElem?_pos]; (try (simp (disch := omega) only [wrap_i64, mul_i64, capOk_of]; (try simp [hg0, hs, hv, hd0, hd10, hl4, hle, hT44, hTm, hp, hP, hE, hK, hn, hc2, hn44, hQ, hQp, hg, nth_eq, -getElem?_pos]); trace "#ScaleFewest_ok.137 w")); first | rfl | exact ⟨rfl, rfl⟩), (by exact SameTests_ok p p), (by simp [hg0, hs, hv, hd0, hd10, hl4, hle, hT44, hTm, hp, hP, hE, hK, hn, hc2, hn44, hQ, hQp, hg]; (try (simp (disch := omega) only [wrap_i64, mul_i64, capOk_of]; (try simp [hg0, hs, hv, hd0, hd10, hl4, hle, hT44, hTm, hp, hP, hE, hK, hn, hc2, hn44, hQ, hQp, hg]); trace "#ScaleFewest_ok.138 w"))), by rfl⟩) (by simp [hg0, hs, hv, hd0, hd10, hl4, hle, hT44, hTm, hp, hP, hE, hK, hn, hc2, hn44, hQ, hQp]; (try (simp (disch := omega) only [wrap_i64, mul_i64, capOk_of]; (try simp [hg0, hs, hv, hd0, hd10, hl4, hle, hT44, hTm, hp, hP, hE, hK, hn, hc2, hn44, hQ, hQp]); trace "#ScaleFewest_ok.139 w")); rfl) ?_; trace "#ScaleFewest_ok.140 X")
     refine WOps.n hΓ 2 (by simp [hg0, hs, hv, hd0, hd10, hl4, hle, hT44, hTm, hp, hP, hE, hK, hn, hc2, hn44, hQ, hQp]; (try (simp (disch := omega) only [wrap_i64, mul_i64, capOk_of]; (try simp [hg0, hs, hv, hd0, hd10, hl4, hle, hT44, hTm, hp, hP, hE, hK, hn, hc2, hn44, hQ, hQp]); trace "#ScaleFewest_ok.141 w")); first | rfl | exact ⟨rfl, rfl⟩) rfl ?_
     refine WOps.gd rfl rfl (by simp [hg0, hs, hv, hd0, hd10, hl4, hle, hT44, hTm, hp, hP, hE, hK, hn, hc2, hn44, hQ, hQp]; (try (simp (disch := omega) only [wrap_i64, mul_i64, capOk_of]; (try simp [hg0, hs, hv, hd0, hd10, hl4, hle, hT44, hTm, hp, hP, hE, hK, hn, hc2, hn44, hQ, hQp]); trace "#ScaleFewest_ok.142 w")); first | rfl | exact (Bool.not_not _).symm) ?_
     first
     | ((with_reducible refine WG.isF ?_); refine WGf.mk rfl (by simp [hg0, hs, hv, hd0, hd10, hl4, hle, hT44, hTm, hp, hP, hE, hK, hn, hc2, hn44, hQ, hQp]; (try (simp (disch := omega) only [wrap_i64, mul_i64, capOk_of]; (try simp [hg0, hs, hv, hd0, hd10, hl4, hle, hT44, hTm, hp, hP, hE, hK, hn, hc2, hn44, hQ, hQp]); trace "#ScaleFewest_ok.143 w")); rfl) ?_; trace "#ScaleFewest_ok.151 F")
     | (
       (with_reducible refine WG.isT ?_)
       refine WGt.call rfl rfl rfl [] rfl rfl (by decide) (by simp [hg0, hs, hv, hd0, hd10, hl4, hle, hT44, hTm, hp, hP, hE, hK, hn, hc2, hn44, hQ, hQp]; (try (simp (disch := omega) only [wrap_i64, mul_i64, capOk_of]; (try simp [hg0, hs, hv, hd0, hd10, hl4, hle, hT44, hTm, hp, hP, hE, hK, hn, hc2, hn44, hQ, hQp]); trace "#ScaleFewest_ok.144 w")); first | rfl | exact ⟨rfl, rfl⟩) (by simp [hg0, hs, hv, hd0, hd10, hl4, hle, hT44, hTm, hp, hP, hE, hK, hn, hc2, hn44, hQ, hQp]; (try (simp (disch := omega) only [wrap_i64, mul_i64, capOk_of]; (try simp [hg0, hs, hv, hd0, hd10, hl4, hle, hT44, hTm, hp, hP, hE, hK, hn, hc2, hn44, hQ, hQp]); trace "#ScaleFewest_ok.145 w")); rfl) ?_
       refine CallT.mk (awake_ok) (by simp [hg0, hs, hv, hd0, hd10, hl4, hle, hT44, hTm, hp, hP, hE, hK, hn, hc2, hn44, hQ, hQp]; (try (simp (disch := omega) only [wrap_i64, mul_i64, capOk_of]; (try simp [hg0, hs, hv, hd0, hd10, hl4, hle, hT44, hTm, hp, hP, hE, hK, hn, hc2, hn44, hQ, hQp]); trace "#ScaleFewest_ok.146 w"))) ?_
       refine WOps.norm (by simp [hg0, hs, hv, hd0, hd10, hl4, hle, hT44, hTm, hp, hP, hE, hK, hn, hc2, hn44, hQ, hQp]; (try (simp (disch := omega) only [wrap_i64, mul_i64, capOk_of]; (try simp [hg0, hs, hv, hd0, hd10, hl4, hle, hT44, hTm, hp, hP, hE, hK, hn, hc2, hn44, hQ, hQp]); trace "#ScaleFewest_ok.147 w")); rfl) ?_; trace "#ScaleFewest_ok.151 T"
       )
     | ((with_reducible refine WG.isX ?_); refine WGx.call rfl rfl rfl (by decide) (by intro hg; (try simp at hg); exact ⟨_, _, _, _, rfl, (by simp [hg0, hs, hv, hd0, hd10, hl4, hle, hT44, hTm, hp, hP, hE, hK, hn, hc2, hn44, hQ, hQp, hg, nth_eq, -getElem?_pos]; (try (simp (disch := omega) only [wrap_i64, mul_i64, capOk_of]; (try simp [hg0, hs, hv, hd0, hd10, hl4, hle, hT44, hTm, hp, hP, hE, hK, hn, hc2, hn44, hQ, hQp, hg, nth_eq, -getElem?_pos]); trace "#ScaleFewest_ok.148 w")); first | rfl | exact ⟨rfl, rfl⟩), (by exact awake_ok), (by simp [hg0, hs, hv, hd0, hd10, hl4, hle, hT44, hTm, hp, hP, hE, hK, hn, hc2, hn44, hQ, hQp, hg]; (try (simp (disch := omega) only [wrap_i64, mul_i64, capOk_of]; (try simp [hg0, hs, hv, hd0, hd10, hl4, hle, hT44, hTm, hp, hP, hE, hK, hn, hc2, hn44, hQ, hQp, hg]); trace "#ScaleFewest_ok.149 w"))), by rfl⟩) (by simp [hg0, hs, hv, hd0, hd10, hl4, hle, hT44, hTm, hp, hP, hE, hK, hn, hc2, hn44, hQ, hQp]; (try (simp (disch := omega) only [wrap_i64, mul_i64, capOk_of]; (try simp [hg0, hs, hv, hd0, hd10, hl4, hle, hT44, hTm, hp, hP, hE, hK, hn, hc2, hn44, hQ, hQp]); trace "#ScaleFewest_ok.150 w")); rfl) ?_; trace "#ScaleFewest_ok.151 X")
     refine WOps.n hΓ 2 (by simp [hg0, hs, hv, hd0, hd10, hl4, hle, hT44, hTm, hp, hP, hE, hK, hn, hc2, hn44, hQ, hQp]; (try (simp (disch := omega) only [wrap_i64, mul_i64, capOk_of]; (try simp [hg0, hs, hv, hd0, hd10, hl4, hle, hT44, hTm, hp, hP, hE, hK, hn, hc2, hn44, hQ, hQp]); trace "#ScaleFewest_ok.152 w")); first | rfl | exact ⟨rfl, rfl⟩) rfl ?_
     refine WOps.endK ?_
     refine W.keep [2] (by simp [hg0, hs, hv, hd0, hd10, hl4, hle, hT44, hTm, hp, hP, hE, hK, hn, hc2, hn44, hQ, hQp]; (try (simp (disch := omega) only [wrap_i64, mul_i64, capOk_of]; (try simp [hg0, hs, hv, hd0, hd10, hl4, hle, hT44, hTm, hp, hP, hE, hK, hn, hc2, hn44, hQ, hQp]); trace "#ScaleFewest_ok.153 w")); rfl) ?_
     refine W.ret ?_
     refine br (tr (tr (br (tr ?_))))
     clear hK4 K4 hK2 K2
     refine EndQ.r false [] [] (by simp [hg0, hs, hv, hd0, hd10, hl4, hle, hT44, hTm, hp, hP, hE, hK, hn, hc2, hn44, hQ, hQp]; (try (simp (disch := omega) only [wrap_i64, mul_i64, capOk_of]; (try simp [hg0, hs, hv, hd0, hd10, hl4, hle, hT44, hTm, hp, hP, hE, hK, hn, hc2, hn44, hQ, hQp]); trace "#ScaleFewest_ok.154 w")); first | rfl | exact ⟨rfl, rfl⟩) ?_
     first
       | (first
          | exact ⟨rfl,rfl⟩
          | (simp_all;done)
          | (refine absurd qPP hP)
          | (refine absurd hP ?_;rw [bet_none hv kb (by omega)];decide))
       | (trace "VC 4 end"; trace_state; sorry)
    ·
     refine W.regK hΓ [3, 4, 5, 6, 7, 50] (by simp [hg0, hs, hv, hd0, hd10, hl4, hle, hT44, hTm, hp, hP, hE, hK, hn, hc2, hn44, hQ]; (try (simp (disch := omega) only [wrap_i64, mul_i64, capOk_of]; (try simp [hg0, hs, hv, hd0, hd10, hl4, hle, hT44, hTm, hp, hP, hE, hK, hn, hc2, hn44, hQ]); trace "#ScaleFewest_ok.155 w")); rfl) ?_
     refine W.cond (t := false) (by simp [hg0, hs, hv, hd0, hd10, hl4, hle, hT44, hTm, hp, hP, hE, hK, hn, hc2, hn44, hQ]; (try (simp (disch := omega) only [wrap_i64, mul_i64, capOk_of]; (try simp [hg0, hs, hv, hd0, hd10, hl4, hle, hT44, hTm, hp, hP, hE, hK, hn, hc2, hn44, hQ]); trace "#ScaleFewest_ok.156 w"))) ?_
     simp only [if_true,Bool.false_eq_true,if_false]
     refine W.skip ?_
     refine hK4 _ ?_
     clear hK4 K4
     refine W.regE hΓ (by simp [hg0, hs, hv, hd0, hd10, hl4, hle, hT44, hTm, hp, hP, hE, hK, hn, hc2, hn44, hQ]; (try (simp (disch := omega) only [wrap_i64, mul_i64, capOk_of]; (try simp [hg0, hs, hv, hd0, hd10, hl4, hle, hT44, hTm, hp, hP, hE, hK, hn, hc2, hn44, hQ]); trace "#ScaleFewest_ok.157 w")); rfl) ?_
     refine ⟨n + 1, Le.fit (by simp [hg0, hs, hv, hd0, hd10, hl4, hle, hT44, hTm, hp, hP, hE, hK, hn, hc2, hn44, hQ]; (try (simp (disch := omega) only [wrap_i64, mul_i64, capOk_of]; (try simp [hg0, hs, hv, hd0, hd10, hl4, hle, hT44, hTm, hp, hP, hE, hK, hn, hc2, hn44, hQ]); trace "#ScaleFewest_ok.158 w")); rfl) (by rfl) (by rfl) (by rfl) ?_ ?_, ?_, ?_⟩
     ·
      try (simp [hg0, hs, hv, hd0, hd10, hl4, hle, hT44, hTm, hp, hP, hE, hK, hn, hc2, hn44, hQ]; (try (simp (disch := omega) only [wrap_i64, mul_i64, capOk_of]; (try simp [hg0, hs, hv, hd0, hd10, hl4, hle, hT44, hTm, hp, hP, hE, hK, hn, hc2, hn44, hQ]); trace "#ScaleFewest_ok.159 w")))
      all_goals (
       first
         | (first | done | omega | (simp_all;done) | (simp_all;omega))
         | (trace "VC 5 back.tmps"; trace_state; sorry)
      )
     ·
      try (simp [hg0, hs, hv, hd0, hd10, hl4, hle, hT44, hTm, hp, hP, hE, hK, hn, hc2, hn44, hQ]; (try (simp (disch := omega) only [wrap_i64, mul_i64, capOk_of]; (try simp [hg0, hs, hv, hd0, hd10, hl4, hle, hT44, hTm, hp, hP, hE, hK, hn, hc2, hn44, hQ]); trace "#ScaleFewest_ok.160 w")))
      all_goals (
       first
         | (first | done | omega | (simp_all;done) | (simp_all;omega))
         | (trace "VC 6 back.objs"; trace_state; sorry)
      )
     ·
      first
        | (refine ⟨by omega,fun m' hm'=>?_⟩
           by_cases e:m'=n
           · rw [e,qQ];simpa using hQ
           · exact kb m' (by omega))
        | (trace "VC 7 back.inv"; trace_state; sorry)
     ·
      first
        | (first | done | omega | (simp_all;done) | (simp_all;omega))
        | (trace "VC 8 back.meas"; trace_state; sorry)
   ·
    try simp at hc2
    refine W.exit ?_
    refine hK2 _ ?_
    clear hK3 K3 hK2 K2
    refine W.seqR ?_
    refine WOps.n hΓ 3 (by simp [hg0, hs, hv, hd0, hd10, hl4, hle, hT44, hTm, hp, hP, hE, hK, hn, hc2]; (try (simp (disch := omega) only [wrap_i64, mul_i64, capOk_of]; (try simp [hg0, hs, hv, hd0, hd10, hl4, hle, hT44, hTm, hp, hP, hE, hK, hn, hc2]); trace "#ScaleFewest_ok.161 w")); first | rfl | exact ⟨rfl, rfl⟩) rfl ?_
    refine WOps.gd rfl rfl (by simp [hg0, hs, hv, hd0, hd10, hl4, hle, hT44, hTm, hp, hP, hE, hK, hn, hc2]; (try (simp (disch := omega) only [wrap_i64, mul_i64, capOk_of]; (try simp [hg0, hs, hv, hd0, hd10, hl4, hle, hT44, hTm, hp, hP, hE, hK, hn, hc2]); trace "#ScaleFewest_ok.162 w")); first | rfl | exact (Bool.not_not _).symm) ?_
    first
    | ((with_reducible refine WG.isF ?_); refine WGf.mk rfl (by simp [hg0, hs, hv, hd0, hd10, hl4, hle, hT44, hTm, hp, hP, hE, hK, hn, hc2]; (try (simp (disch := omega) only [wrap_i64, mul_i64, capOk_of]; (try simp [hg0, hs, hv, hd0, hd10, hl4, hle, hT44, hTm, hp, hP, hE, hK, hn, hc2]); trace "#ScaleFewest_ok.163 w")); rfl) ?_; trace "#ScaleFewest_ok.171 F")
    | (
      (with_reducible refine WG.isT ?_)
      refine WGt.call rfl rfl rfl [] rfl rfl (by decide) (by simp [hg0, hs, hv, hd0, hd10, hl4, hle, hT44, hTm, hp, hP, hE, hK, hn, hc2]; (try (simp (disch := omega) only [wrap_i64, mul_i64, capOk_of]; (try simp [hg0, hs, hv, hd0, hd10, hl4, hle, hT44, hTm, hp, hP, hE, hK, hn, hc2]); trace "#ScaleFewest_ok.164 w")); first | rfl | exact ⟨rfl, rfl⟩) (by simp [hg0, hs, hv, hd0, hd10, hl4, hle, hT44, hTm, hp, hP, hE, hK, hn, hc2]; (try (simp (disch := omega) only [wrap_i64, mul_i64, capOk_of]; (try simp [hg0, hs, hv, hd0, hd10, hl4, hle, hT44, hTm, hp, hP, hE, hK, hn, hc2]); trace "#ScaleFewest_ok.165 w")); rfl) ?_
      refine CallT.mk (awake_ok) (by simp [hg0, hs, hv, hd0, hd10, hl4, hle, hT44, hTm, hp, hP, hE, hK, hn, hc2]; (try (simp (disch := omega) only [wrap_i64, mul_i64, capOk_of]; (try simp [hg0, hs, hv, hd0, hd10, hl4, hle, hT44, hTm, hp, hP, hE, hK, hn, hc2]); trace "#ScaleFewest_ok.166 w"))) ?_
      refine WOps.norm (by simp [hg0, hs, hv, hd0, hd10, hl4, hle, hT44, hTm, hp, hP, hE, hK, hn, hc2]; (try (simp (disch := omega) only [wrap_i64, mul_i64, capOk_of]; (try simp [hg0, hs, hv, hd0, hd10, hl4, hle, hT44, hTm, hp, hP, hE, hK, hn, hc2]); trace "#ScaleFewest_ok.167 w")); rfl) ?_; trace "#ScaleFewest_ok.171 T"
      )
    | ((with_reducible refine WG.isX ?_); refine WGx.call rfl rfl rfl (by decide) (by intro hg; (try simp at hg); exact ⟨_, _, _, _, rfl, (by simp [hg0, hs, hv, hd0, hd10, hl4, hle, hT44, hTm, hp, hP, hE, hK, hn, hc2, hg, nth_eq, -getElem?_pos]; (try (simp (disch := omega) only [wrap_i64, mul_i64, capOk_of]; (try simp [hg0, hs, hv, hd0, hd10, hl4, hle, hT44, hTm, hp, hP, hE, hK, hn, hc2, hg, nth_eq, -getElem?_pos]); trace "#ScaleFewest_ok.168 w")); first | rfl | exact ⟨rfl, rfl⟩), (by exact awake_ok), (by simp [hg0, hs, hv, hd0, hd10, hl4, hle, hT44, hTm, hp, hP, hE, hK, hn, hc2, hg]; (try (simp (disch := omega) only [wrap_i64, mul_i64, capOk_of]; (try simp [hg0, hs, hv, hd0, hd10, hl4, hle, hT44, hTm, hp, hP, hE, hK, hn, hc2, hg]); trace "#ScaleFewest_ok.169 w"))), by rfl⟩) (by simp [hg0, hs, hv, hd0, hd10, hl4, hle, hT44, hTm, hp, hP, hE, hK, hn, hc2]; (try (simp (disch := omega) only [wrap_i64, mul_i64, capOk_of]; (try simp [hg0, hs, hv, hd0, hd10, hl4, hle, hT44, hTm, hp, hP, hE, hK, hn, hc2]); trace "#ScaleFewest_ok.170 w")); rfl) ?_; trace "#ScaleFewest_ok.171 X")
    refine WOps.n hΓ 2 (by simp [hg0, hs, hv, hd0, hd10, hl4, hle, hT44, hTm, hp, hP, hE, hK, hn, hc2]; (try (simp (disch := omega) only [wrap_i64, mul_i64, capOk_of]; (try simp [hg0, hs, hv, hd0, hd10, hl4, hle, hT44, hTm, hp, hP, hE, hK, hn, hc2]); trace "#ScaleFewest_ok.172 w")); first | rfl | exact ⟨rfl, rfl⟩) rfl ?_
    refine WOps.endK ?_
    refine W.keep [2] (by simp [hg0, hs, hv, hd0, hd10, hl4, hle, hT44, hTm, hp, hP, hE, hK, hn, hc2]; (try (simp (disch := omega) only [wrap_i64, mul_i64, capOk_of]; (try simp [hg0, hs, hv, hd0, hd10, hl4, hle, hT44, hTm, hp, hP, hE, hK, hn, hc2]); trace "#ScaleFewest_ok.173 w")); rfl) ?_
    refine W.ret ?_
    refine EndQ.r false [] [] (by simp [hg0, hs, hv, hd0, hd10, hl4, hle, hT44, hTm, hp, hP, hE, hK, hn, hc2]; (try (simp (disch := omega) only [wrap_i64, mul_i64, capOk_of]; (try simp [hg0, hs, hv, hd0, hd10, hl4, hle, hT44, hTm, hp, hP, hE, hK, hn, hc2]); trace "#ScaleFewest_ok.174 w")); first | rfl | exact ⟨rfl, rfl⟩) ?_
    first
      | (first
         | exact ⟨rfl,rfl⟩
         | (simp_all;done)
         | (refine absurd qPP hP)
         | (refine absurd hP ?_;rw [bet_none hv kb (by omega)];decide))
      | (trace "VC 9 end"; trace_state; sorry)
 ·
  have hE:planE s=3:=(planL_no hv hP).2
  refine W.seqR ?_
  refine WOps.n hΓ 3 (by simp [hg0, hs, hv, hd0, hd10, hl4, hle, hT44, hTm, hp, hP, hE]; (try (simp (disch := omega) only [wrap_i64, mul_i64, capOk_of]; (try simp [hg0, hs, hv, hd0, hd10, hl4, hle, hT44, hTm, hp, hP, hE]); trace "#ScaleFewest_ok.175 w")); first | rfl | exact ⟨rfl, rfl⟩) rfl ?_
  refine WOps.gd rfl rfl (by simp [hg0, hs, hv, hd0, hd10, hl4, hle, hT44, hTm, hp, hP, hE]; (try (simp (disch := omega) only [wrap_i64, mul_i64, capOk_of]; (try simp [hg0, hs, hv, hd0, hd10, hl4, hle, hT44, hTm, hp, hP, hE]); trace "#ScaleFewest_ok.176 w")); first | rfl | exact (Bool.not_not _).symm) ?_
  first
  | ((with_reducible refine WG.isF ?_); refine WGf.mk rfl (by simp [hg0, hs, hv, hd0, hd10, hl4, hle, hT44, hTm, hp, hP, hE]; (try (simp (disch := omega) only [wrap_i64, mul_i64, capOk_of]; (try simp [hg0, hs, hv, hd0, hd10, hl4, hle, hT44, hTm, hp, hP, hE]); trace "#ScaleFewest_ok.177 w")); rfl) ?_; trace "#ScaleFewest_ok.182 F")
  | ((with_reducible refine WG.isT ?_); refine WGt.mk hΓ rfl (by simp [hg0, hs, hv, hd0, hd10, hl4, hle, hT44, hTm, hp, hP, hE]; (try (simp (disch := omega) only [wrap_i64, mul_i64, capOk_of]; (try simp [hg0, hs, hv, hd0, hd10, hl4, hle, hT44, hTm, hp, hP, hE]); trace "#ScaleFewest_ok.178 w")); first | rfl | exact ⟨rfl, rfl⟩) (by simp [hg0, hs, hv, hd0, hd10, hl4, hle, hT44, hTm, hp, hP, hE]; (try (simp (disch := omega) only [wrap_i64, mul_i64, capOk_of]; (try simp [hg0, hs, hv, hd0, hd10, hl4, hle, hT44, hTm, hp, hP, hE]); trace "#ScaleFewest_ok.179 w")); rfl) ?_; trace "#ScaleFewest_ok.182 T")
  | ((with_reducible refine WG.isX ?_); refine WGx.mk hΓ rfl rfl (by intro hg; (try simp at hg); simp [hg0, hs, hv, hd0, hd10, hl4, hle, hT44, hTm, hp, hP, hE, hg, nth_eq, -getElem?_pos]; (try (simp (disch := omega) only [wrap_i64, mul_i64, capOk_of]; (try simp [hg0, hs, hv, hd0, hd10, hl4, hle, hT44, hTm, hp, hP, hE, hg, nth_eq, -getElem?_pos]); trace "#ScaleFewest_ok.180 w")); rfl) (by simp [hg0, hs, hv, hd0, hd10, hl4, hle, hT44, hTm, hp, hP, hE]; (try (simp (disch := omega) only [wrap_i64, mul_i64, capOk_of]; (try simp [hg0, hs, hv, hd0, hd10, hl4, hle, hT44, hTm, hp, hP, hE]); trace "#ScaleFewest_ok.181 w")); rfl) ?_; trace "#ScaleFewest_ok.182 X")
  refine WOps.gd rfl rfl (by simp [hg0, hs, hv, hd0, hd10, hl4, hle, hT44, hTm, hp, hP, hE]; (try (simp (disch := omega) only [wrap_i64, mul_i64, capOk_of]; (try simp [hg0, hs, hv, hd0, hd10, hl4, hle, hT44, hTm, hp, hP, hE]); trace "#ScaleFewest_ok.183 w")); first | rfl | exact (Bool.not_not _).symm) ?_
  first
  | ((with_reducible refine WG.isF ?_); refine WGf.mk rfl (by simp [hg0, hs, hv, hd0, hd10, hl4, hle, hT44, hTm, hp, hP, hE]; (try (simp (disch := omega) only [wrap_i64, mul_i64, capOk_of]; (try simp [hg0, hs, hv, hd0, hd10, hl4, hle, hT44, hTm, hp, hP, hE]); trace "#ScaleFewest_ok.184 w")); rfl) ?_; trace "#ScaleFewest_ok.189 F")
  | ((with_reducible refine WG.isT ?_); refine WGt.mk hΓ rfl (by simp [hg0, hs, hv, hd0, hd10, hl4, hle, hT44, hTm, hp, hP, hE]; (try (simp (disch := omega) only [wrap_i64, mul_i64, capOk_of]; (try simp [hg0, hs, hv, hd0, hd10, hl4, hle, hT44, hTm, hp, hP, hE]); trace "#ScaleFewest_ok.185 w")); first | rfl | exact ⟨rfl, rfl⟩) (by simp [hg0, hs, hv, hd0, hd10, hl4, hle, hT44, hTm, hp, hP, hE]; (try (simp (disch := omega) only [wrap_i64, mul_i64, capOk_of]; (try simp [hg0, hs, hv, hd0, hd10, hl4, hle, hT44, hTm, hp, hP, hE]); trace "#ScaleFewest_ok.186 w")); rfl) ?_; trace "#ScaleFewest_ok.189 T")
  | ((with_reducible refine WG.isX ?_); refine WGx.mk hΓ rfl rfl (by intro hg; (try simp at hg); simp [hg0, hs, hv, hd0, hd10, hl4, hle, hT44, hTm, hp, hP, hE, hg, nth_eq, -getElem?_pos]; (try (simp (disch := omega) only [wrap_i64, mul_i64, capOk_of]; (try simp [hg0, hs, hv, hd0, hd10, hl4, hle, hT44, hTm, hp, hP, hE, hg, nth_eq, -getElem?_pos]); trace "#ScaleFewest_ok.187 w")); rfl) (by simp [hg0, hs, hv, hd0, hd10, hl4, hle, hT44, hTm, hp, hP, hE]; (try (simp (disch := omega) only [wrap_i64, mul_i64, capOk_of]; (try simp [hg0, hs, hv, hd0, hd10, hl4, hle, hT44, hTm, hp, hP, hE]); trace "#ScaleFewest_ok.188 w")); rfl) ?_; trace "#ScaleFewest_ok.189 X")
  refine WOps.n hΓ 2 (by simp [hg0, hs, hv, hd0, hd10, hl4, hle, hT44, hTm, hp, hP, hE]; (try (simp (disch := omega) only [wrap_i64, mul_i64, capOk_of]; (try simp [hg0, hs, hv, hd0, hd10, hl4, hle, hT44, hTm, hp, hP, hE]); trace "#ScaleFewest_ok.190 w")); first | rfl | exact ⟨rfl, rfl⟩) rfl ?_
  refine WOps.gd rfl rfl (by simp [hg0, hs, hv, hd0, hd10, hl4, hle, hT44, hTm, hp, hP, hE]; (try (simp (disch := omega) only [wrap_i64, mul_i64, capOk_of]; (try simp [hg0, hs, hv, hd0, hd10, hl4, hle, hT44, hTm, hp, hP, hE]); trace "#ScaleFewest_ok.191 w")); first | rfl | exact (Bool.not_not _).symm) ?_
  first
  | ((with_reducible refine WG.isF ?_); refine WGf.mk rfl (by simp [hg0, hs, hv, hd0, hd10, hl4, hle, hT44, hTm, hp, hP, hE]; (try (simp (disch := omega) only [wrap_i64, mul_i64, capOk_of]; (try simp [hg0, hs, hv, hd0, hd10, hl4, hle, hT44, hTm, hp, hP, hE]); trace "#ScaleFewest_ok.192 w")); rfl) ?_; trace "#ScaleFewest_ok.197 F")
  | ((with_reducible refine WG.isT ?_); refine WGt.mk hΓ rfl (by simp [hg0, hs, hv, hd0, hd10, hl4, hle, hT44, hTm, hp, hP, hE]; (try (simp (disch := omega) only [wrap_i64, mul_i64, capOk_of]; (try simp [hg0, hs, hv, hd0, hd10, hl4, hle, hT44, hTm, hp, hP, hE]); trace "#ScaleFewest_ok.193 w")); first | rfl | exact ⟨rfl, rfl⟩) (by simp [hg0, hs, hv, hd0, hd10, hl4, hle, hT44, hTm, hp, hP, hE]; (try (simp (disch := omega) only [wrap_i64, mul_i64, capOk_of]; (try simp [hg0, hs, hv, hd0, hd10, hl4, hle, hT44, hTm, hp, hP, hE]); trace "#ScaleFewest_ok.194 w")); rfl) ?_; trace "#ScaleFewest_ok.197 T")
  | ((with_reducible refine WG.isX ?_); refine WGx.mk hΓ rfl rfl (by intro hg; (try simp at hg); simp [hg0, hs, hv, hd0, hd10, hl4, hle, hT44, hTm, hp, hP, hE, hg, nth_eq, -getElem?_pos]; (try (simp (disch := omega) only [wrap_i64, mul_i64, capOk_of]; (try simp [hg0, hs, hv, hd0, hd10, hl4, hle, hT44, hTm, hp, hP, hE, hg, nth_eq, -getElem?_pos]); trace "#ScaleFewest_ok.195 w")); rfl) (by simp [hg0, hs, hv, hd0, hd10, hl4, hle, hT44, hTm, hp, hP, hE]; (try (simp (disch := omega) only [wrap_i64, mul_i64, capOk_of]; (try simp [hg0, hs, hv, hd0, hd10, hl4, hle, hT44, hTm, hp, hP, hE]); trace "#ScaleFewest_ok.196 w")); rfl) ?_; trace "#ScaleFewest_ok.197 X")
  refine WOps.gd rfl rfl (by simp [hg0, hs, hv, hd0, hd10, hl4, hle, hT44, hTm, hp, hP, hE]; (try (simp (disch := omega) only [wrap_i64, mul_i64, capOk_of]; (try simp [hg0, hs, hv, hd0, hd10, hl4, hle, hT44, hTm, hp, hP, hE]); trace "#ScaleFewest_ok.198 w")); first | rfl | exact (Bool.not_not _).symm) ?_
  first
  | ((with_reducible refine WG.isF ?_); refine WGf.mk rfl (by simp [hg0, hs, hv, hd0, hd10, hl4, hle, hT44, hTm, hp, hP, hE]; (try (simp (disch := omega) only [wrap_i64, mul_i64, capOk_of]; (try simp [hg0, hs, hv, hd0, hd10, hl4, hle, hT44, hTm, hp, hP, hE]); trace "#ScaleFewest_ok.199 w")); rfl) ?_; trace "#ScaleFewest_ok.204 F")
  | ((with_reducible refine WG.isT ?_); refine WGt.mk hΓ rfl (by simp [hg0, hs, hv, hd0, hd10, hl4, hle, hT44, hTm, hp, hP, hE]; (try (simp (disch := omega) only [wrap_i64, mul_i64, capOk_of]; (try simp [hg0, hs, hv, hd0, hd10, hl4, hle, hT44, hTm, hp, hP, hE]); trace "#ScaleFewest_ok.200 w")); first | rfl | exact ⟨rfl, rfl⟩) (by simp [hg0, hs, hv, hd0, hd10, hl4, hle, hT44, hTm, hp, hP, hE]; (try (simp (disch := omega) only [wrap_i64, mul_i64, capOk_of]; (try simp [hg0, hs, hv, hd0, hd10, hl4, hle, hT44, hTm, hp, hP, hE]); trace "#ScaleFewest_ok.201 w")); rfl) ?_; trace "#ScaleFewest_ok.204 T")
  | ((with_reducible refine WG.isX ?_); refine WGx.mk hΓ rfl rfl (by intro hg; (try simp at hg); simp [hg0, hs, hv, hd0, hd10, hl4, hle, hT44, hTm, hp, hP, hE, hg, nth_eq, -getElem?_pos]; (try (simp (disch := omega) only [wrap_i64, mul_i64, capOk_of]; (try simp [hg0, hs, hv, hd0, hd10, hl4, hle, hT44, hTm, hp, hP, hE, hg, nth_eq, -getElem?_pos]); trace "#ScaleFewest_ok.202 w")); rfl) (by simp [hg0, hs, hv, hd0, hd10, hl4, hle, hT44, hTm, hp, hP, hE]; (try (simp (disch := omega) only [wrap_i64, mul_i64, capOk_of]; (try simp [hg0, hs, hv, hd0, hd10, hl4, hle, hT44, hTm, hp, hP, hE]); trace "#ScaleFewest_ok.203 w")); rfl) ?_; trace "#ScaleFewest_ok.204 X")
  refine WOps.gd rfl rfl (by simp [hg0, hs, hv, hd0, hd10, hl4, hle, hT44, hTm, hp, hP, hE]; (try (simp (disch := omega) only [wrap_i64, mul_i64, capOk_of]; (try simp [hg0, hs, hv, hd0, hd10, hl4, hle, hT44, hTm, hp, hP, hE]); trace "#ScaleFewest_ok.205 w")); first | rfl | exact (Bool.not_not _).symm) ?_
  first
  | ((with_reducible refine WG.isF ?_); refine WGf.mk rfl (by simp [hg0, hs, hv, hd0, hd10, hl4, hle, hT44, hTm, hp, hP, hE]; (try (simp (disch := omega) only [wrap_i64, mul_i64, capOk_of]; (try simp [hg0, hs, hv, hd0, hd10, hl4, hle, hT44, hTm, hp, hP, hE]); trace "#ScaleFewest_ok.206 w")); rfl) ?_; trace "#ScaleFewest_ok.211 F")
  | ((with_reducible refine WG.isT ?_); refine WGt.mk hΓ rfl (by simp [hg0, hs, hv, hd0, hd10, hl4, hle, hT44, hTm, hp, hP, hE]; (try (simp (disch := omega) only [wrap_i64, mul_i64, capOk_of]; (try simp [hg0, hs, hv, hd0, hd10, hl4, hle, hT44, hTm, hp, hP, hE]); trace "#ScaleFewest_ok.207 w")); first | rfl | exact ⟨rfl, rfl⟩) (by simp [hg0, hs, hv, hd0, hd10, hl4, hle, hT44, hTm, hp, hP, hE]; (try (simp (disch := omega) only [wrap_i64, mul_i64, capOk_of]; (try simp [hg0, hs, hv, hd0, hd10, hl4, hle, hT44, hTm, hp, hP, hE]); trace "#ScaleFewest_ok.208 w")); rfl) ?_; trace "#ScaleFewest_ok.211 T")
  | ((with_reducible refine WG.isX ?_); refine WGx.mk hΓ rfl rfl (by intro hg; (try simp at hg); simp [hg0, hs, hv, hd0, hd10, hl4, hle, hT44, hTm, hp, hP, hE, hg, nth_eq, -getElem?_pos]; (try (simp (disch := omega) only [wrap_i64, mul_i64, capOk_of]; (try simp [hg0, hs, hv, hd0, hd10, hl4, hle, hT44, hTm, hp, hP, hE, hg, nth_eq, -getElem?_pos]); trace "#ScaleFewest_ok.209 w")); rfl) (by simp [hg0, hs, hv, hd0, hd10, hl4, hle, hT44, hTm, hp, hP, hE]; (try (simp (disch := omega) only [wrap_i64, mul_i64, capOk_of]; (try simp [hg0, hs, hv, hd0, hd10, hl4, hle, hT44, hTm, hp, hP, hE]); trace "#ScaleFewest_ok.210 w")); rfl) ?_; trace "#ScaleFewest_ok.211 X")
  refine WOps.gd rfl rfl (by simp [hg0, hs, hv, hd0, hd10, hl4, hle, hT44, hTm, hp, hP, hE]; (try (simp (disch := omega) only [wrap_i64, mul_i64, capOk_of]; (try simp [hg0, hs, hv, hd0, hd10, hl4, hle, hT44, hTm, hp, hP, hE]); trace "#ScaleFewest_ok.212 w")); first | rfl | exact (Bool.not_not _).symm) ?_
  first
  | ((with_reducible refine WG.isF ?_); refine WGf.mk rfl (by simp [hg0, hs, hv, hd0, hd10, hl4, hle, hT44, hTm, hp, hP, hE]; (try (simp (disch := omega) only [wrap_i64, mul_i64, capOk_of]; (try simp [hg0, hs, hv, hd0, hd10, hl4, hle, hT44, hTm, hp, hP, hE]); trace "#ScaleFewest_ok.213 w")); rfl) ?_; trace "#ScaleFewest_ok.218 F")
  | ((with_reducible refine WG.isT ?_); refine WGt.mk hΓ rfl (by simp [hg0, hs, hv, hd0, hd10, hl4, hle, hT44, hTm, hp, hP, hE]; (try (simp (disch := omega) only [wrap_i64, mul_i64, capOk_of]; (try simp [hg0, hs, hv, hd0, hd10, hl4, hle, hT44, hTm, hp, hP, hE]); trace "#ScaleFewest_ok.214 w")); first | rfl | exact ⟨rfl, rfl⟩) (by simp [hg0, hs, hv, hd0, hd10, hl4, hle, hT44, hTm, hp, hP, hE]; (try (simp (disch := omega) only [wrap_i64, mul_i64, capOk_of]; (try simp [hg0, hs, hv, hd0, hd10, hl4, hle, hT44, hTm, hp, hP, hE]); trace "#ScaleFewest_ok.215 w")); rfl) ?_; trace "#ScaleFewest_ok.218 T")
  | ((with_reducible refine WG.isX ?_); refine WGx.mk hΓ rfl rfl (by intro hg; (try simp at hg); simp [hg0, hs, hv, hd0, hd10, hl4, hle, hT44, hTm, hp, hP, hE, hg, nth_eq, -getElem?_pos]; (try (simp (disch := omega) only [wrap_i64, mul_i64, capOk_of]; (try simp [hg0, hs, hv, hd0, hd10, hl4, hle, hT44, hTm, hp, hP, hE, hg, nth_eq, -getElem?_pos]); trace "#ScaleFewest_ok.216 w")); rfl) (by simp [hg0, hs, hv, hd0, hd10, hl4, hle, hT44, hTm, hp, hP, hE]; (try (simp (disch := omega) only [wrap_i64, mul_i64, capOk_of]; (try simp [hg0, hs, hv, hd0, hd10, hl4, hle, hT44, hTm, hp, hP, hE]); trace "#ScaleFewest_ok.217 w")); rfl) ?_; trace "#ScaleFewest_ok.218 X")
  refine WOps.gd rfl rfl (by simp [hg0, hs, hv, hd0, hd10, hl4, hle, hT44, hTm, hp, hP, hE]; (try (simp (disch := omega) only [wrap_i64, mul_i64, capOk_of]; (try simp [hg0, hs, hv, hd0, hd10, hl4, hle, hT44, hTm, hp, hP, hE]); trace "#ScaleFewest_ok.219 w")); first | rfl | exact (Bool.not_not _).symm) ?_
  first
  | ((with_reducible refine WG.isF ?_); refine WGf.mk rfl (by simp [hg0, hs, hv, hd0, hd10, hl4, hle, hT44, hTm, hp, hP, hE]; (try (simp (disch := omega) only [wrap_i64, mul_i64, capOk_of]; (try simp [hg0, hs, hv, hd0, hd10, hl4, hle, hT44, hTm, hp, hP, hE]); trace "#ScaleFewest_ok.220 w")); rfl) ?_; trace "#ScaleFewest_ok.225 F")
  | ((with_reducible refine WG.isT ?_); refine WGt.mk hΓ rfl (by simp [hg0, hs, hv, hd0, hd10, hl4, hle, hT44, hTm, hp, hP, hE]; (try (simp (disch := omega) only [wrap_i64, mul_i64, capOk_of]; (try simp [hg0, hs, hv, hd0, hd10, hl4, hle, hT44, hTm, hp, hP, hE]); trace "#ScaleFewest_ok.221 w")); first | rfl | exact ⟨rfl, rfl⟩) (by simp [hg0, hs, hv, hd0, hd10, hl4, hle, hT44, hTm, hp, hP, hE]; (try (simp (disch := omega) only [wrap_i64, mul_i64, capOk_of]; (try simp [hg0, hs, hv, hd0, hd10, hl4, hle, hT44, hTm, hp, hP, hE]); trace "#ScaleFewest_ok.222 w")); rfl) ?_; trace "#ScaleFewest_ok.225 T")
  | ((with_reducible refine WG.isX ?_); refine WGx.mk hΓ rfl rfl (by intro hg; (try simp at hg); simp [hg0, hs, hv, hd0, hd10, hl4, hle, hT44, hTm, hp, hP, hE, hg, nth_eq, -getElem?_pos]; (try (simp (disch := omega) only [wrap_i64, mul_i64, capOk_of]; (try simp [hg0, hs, hv, hd0, hd10, hl4, hle, hT44, hTm, hp, hP, hE, hg, nth_eq, -getElem?_pos]); trace "#ScaleFewest_ok.223 w")); rfl) (by simp [hg0, hs, hv, hd0, hd10, hl4, hle, hT44, hTm, hp, hP, hE]; (try (simp (disch := omega) only [wrap_i64, mul_i64, capOk_of]; (try simp [hg0, hs, hv, hd0, hd10, hl4, hle, hT44, hTm, hp, hP, hE]); trace "#ScaleFewest_ok.224 w")); rfl) ?_; trace "#ScaleFewest_ok.225 X")
  refine WOps.gd rfl rfl (by simp [hg0, hs, hv, hd0, hd10, hl4, hle, hT44, hTm, hp, hP, hE]; (try (simp (disch := omega) only [wrap_i64, mul_i64, capOk_of]; (try simp [hg0, hs, hv, hd0, hd10, hl4, hle, hT44, hTm, hp, hP, hE]); trace "#ScaleFewest_ok.226 w")); first | rfl | exact (Bool.not_not _).symm) ?_
  first
  | ((with_reducible refine WG.isF ?_); refine WGf.mk rfl (by simp [hg0, hs, hv, hd0, hd10, hl4, hle, hT44, hTm, hp, hP, hE]; (try (simp (disch := omega) only [wrap_i64, mul_i64, capOk_of]; (try simp [hg0, hs, hv, hd0, hd10, hl4, hle, hT44, hTm, hp, hP, hE]); trace "#ScaleFewest_ok.227 w")); rfl) ?_; trace "#ScaleFewest_ok.235 F")
  | (
    (with_reducible refine WG.isT ?_)
    refine WGt.call rfl rfl rfl [] rfl rfl (by decide) (by simp [hg0, hs, hv, hd0, hd10, hl4, hle, hT44, hTm, hp, hP, hE]; (try (simp (disch := omega) only [wrap_i64, mul_i64, capOk_of]; (try simp [hg0, hs, hv, hd0, hd10, hl4, hle, hT44, hTm, hp, hP, hE]); trace "#ScaleFewest_ok.228 w")); first | rfl | exact ⟨rfl, rfl⟩) (by simp [hg0, hs, hv, hd0, hd10, hl4, hle, hT44, hTm, hp, hP, hE]; (try (simp (disch := omega) only [wrap_i64, mul_i64, capOk_of]; (try simp [hg0, hs, hv, hd0, hd10, hl4, hle, hT44, hTm, hp, hP, hE]); trace "#ScaleFewest_ok.229 w")); rfl) ?_
    refine CallT.mk (sealed_ok s hv p qdl qdd) (by simp [hg0, hs, hv, hd0, hd10, hl4, hle, hT44, hTm, hp, hP, hE]; (try (simp (disch := omega) only [wrap_i64, mul_i64, capOk_of]; (try simp [hg0, hs, hv, hd0, hd10, hl4, hle, hT44, hTm, hp, hP, hE]); trace "#ScaleFewest_ok.230 w"))) ?_
    refine WOps.norm (by simp [hg0, hs, hv, hd0, hd10, hl4, hle, hT44, hTm, hp, hP, hE]; (try (simp (disch := omega) only [wrap_i64, mul_i64, capOk_of]; (try simp [hg0, hs, hv, hd0, hd10, hl4, hle, hT44, hTm, hp, hP, hE]); trace "#ScaleFewest_ok.231 w")); rfl) ?_; trace "#ScaleFewest_ok.235 T"
    )
  | ((with_reducible refine WG.isX ?_); refine WGx.call rfl rfl rfl (by decide) (by intro hg; (try simp at hg); exact ⟨_, _, _, _, rfl, (by simp [hg0, hs, hv, hd0, hd10, hl4, hle, hT44, hTm, hp, hP, hE, hg, nth_eq, -getElem?_pos]; (try (simp (disch := omega) only [wrap_i64, mul_i64, capOk_of]; (try simp [hg0, hs, hv, hd0, hd10, hl4, hle, hT44, hTm, hp, hP, hE, hg, nth_eq, -getElem?_pos]); trace "#ScaleFewest_ok.232 w")); first | rfl | exact ⟨rfl, rfl⟩), (by exact sealed_ok s hv p qdl qdd), (by simp [hg0, hs, hv, hd0, hd10, hl4, hle, hT44, hTm, hp, hP, hE, hg]; (try (simp (disch := omega) only [wrap_i64, mul_i64, capOk_of]; (try simp [hg0, hs, hv, hd0, hd10, hl4, hle, hT44, hTm, hp, hP, hE, hg]); trace "#ScaleFewest_ok.233 w"))), by rfl⟩) (by simp [hg0, hs, hv, hd0, hd10, hl4, hle, hT44, hTm, hp, hP, hE]; (try (simp (disch := omega) only [wrap_i64, mul_i64, capOk_of]; (try simp [hg0, hs, hv, hd0, hd10, hl4, hle, hT44, hTm, hp, hP, hE]); trace "#ScaleFewest_ok.234 w")); rfl) ?_; trace "#ScaleFewest_ok.235 X")
  refine WOps.gd rfl rfl (by simp [hg0, hs, hv, hd0, hd10, hl4, hle, hT44, hTm, hp, hP, hE]; (try (simp (disch := omega) only [wrap_i64, mul_i64, capOk_of]; (try simp [hg0, hs, hv, hd0, hd10, hl4, hle, hT44, hTm, hp, hP, hE]); trace "#ScaleFewest_ok.236 w")); first | rfl | exact (Bool.not_not _).symm) ?_
  first
  | ((with_reducible refine WG.isF ?_); refine WGf.mk rfl (by simp [hg0, hs, hv, hd0, hd10, hl4, hle, hT44, hTm, hp, hP, hE]; (try (simp (disch := omega) only [wrap_i64, mul_i64, capOk_of]; (try simp [hg0, hs, hv, hd0, hd10, hl4, hle, hT44, hTm, hp, hP, hE]); trace "#ScaleFewest_ok.237 w")); rfl) ?_; trace "#ScaleFewest_ok.242 F")
  | ((with_reducible refine WG.isT ?_); refine WGt.mk hΓ rfl (by simp [hg0, hs, hv, hd0, hd10, hl4, hle, hT44, hTm, hp, hP, hE]; (try (simp (disch := omega) only [wrap_i64, mul_i64, capOk_of]; (try simp [hg0, hs, hv, hd0, hd10, hl4, hle, hT44, hTm, hp, hP, hE]); trace "#ScaleFewest_ok.238 w")); first | rfl | exact ⟨rfl, rfl⟩) (by simp [hg0, hs, hv, hd0, hd10, hl4, hle, hT44, hTm, hp, hP, hE]; (try (simp (disch := omega) only [wrap_i64, mul_i64, capOk_of]; (try simp [hg0, hs, hv, hd0, hd10, hl4, hle, hT44, hTm, hp, hP, hE]); trace "#ScaleFewest_ok.239 w")); rfl) ?_; trace "#ScaleFewest_ok.242 T")
  | ((with_reducible refine WG.isX ?_); refine WGx.mk hΓ rfl rfl (by intro hg; (try simp at hg); simp [hg0, hs, hv, hd0, hd10, hl4, hle, hT44, hTm, hp, hP, hE, hg, nth_eq, -getElem?_pos]; (try (simp (disch := omega) only [wrap_i64, mul_i64, capOk_of]; (try simp [hg0, hs, hv, hd0, hd10, hl4, hle, hT44, hTm, hp, hP, hE, hg, nth_eq, -getElem?_pos]); trace "#ScaleFewest_ok.240 w")); rfl) (by simp [hg0, hs, hv, hd0, hd10, hl4, hle, hT44, hTm, hp, hP, hE]; (try (simp (disch := omega) only [wrap_i64, mul_i64, capOk_of]; (try simp [hg0, hs, hv, hd0, hd10, hl4, hle, hT44, hTm, hp, hP, hE]); trace "#ScaleFewest_ok.241 w")); rfl) ?_; trace "#ScaleFewest_ok.242 X")
  refine WOps.gd rfl rfl (by simp [hg0, hs, hv, hd0, hd10, hl4, hle, hT44, hTm, hp, hP, hE]; (try (simp (disch := omega) only [wrap_i64, mul_i64, capOk_of]; (try simp [hg0, hs, hv, hd0, hd10, hl4, hle, hT44, hTm, hp, hP, hE]); trace "#ScaleFewest_ok.243 w")); first | rfl | exact (Bool.not_not _).symm) ?_
  first
  | ((with_reducible refine WG.isF ?_); refine WGf.mk rfl (by simp [hg0, hs, hv, hd0, hd10, hl4, hle, hT44, hTm, hp, hP, hE]; (try (simp (disch := omega) only [wrap_i64, mul_i64, capOk_of]; (try simp [hg0, hs, hv, hd0, hd10, hl4, hle, hT44, hTm, hp, hP, hE]); trace "#ScaleFewest_ok.244 w")); rfl) ?_; trace "#ScaleFewest_ok.249 F")
  | ((with_reducible refine WG.isT ?_); refine WGt.mk hΓ rfl (by simp [hg0, hs, hv, hd0, hd10, hl4, hle, hT44, hTm, hp, hP, hE]; (try (simp (disch := omega) only [wrap_i64, mul_i64, capOk_of]; (try simp [hg0, hs, hv, hd0, hd10, hl4, hle, hT44, hTm, hp, hP, hE]); trace "#ScaleFewest_ok.245 w")); first | rfl | exact ⟨rfl, rfl⟩) (by simp [hg0, hs, hv, hd0, hd10, hl4, hle, hT44, hTm, hp, hP, hE]; (try (simp (disch := omega) only [wrap_i64, mul_i64, capOk_of]; (try simp [hg0, hs, hv, hd0, hd10, hl4, hle, hT44, hTm, hp, hP, hE]); trace "#ScaleFewest_ok.246 w")); rfl) ?_; trace "#ScaleFewest_ok.249 T")
  | ((with_reducible refine WG.isX ?_); refine WGx.mk hΓ rfl rfl (by intro hg; (try simp at hg); simp [hg0, hs, hv, hd0, hd10, hl4, hle, hT44, hTm, hp, hP, hE, hg, nth_eq, -getElem?_pos]; (try (simp (disch := omega) only [wrap_i64, mul_i64, capOk_of]; (try simp [hg0, hs, hv, hd0, hd10, hl4, hle, hT44, hTm, hp, hP, hE, hg, nth_eq, -getElem?_pos]); trace "#ScaleFewest_ok.247 w")); rfl) (by simp [hg0, hs, hv, hd0, hd10, hl4, hle, hT44, hTm, hp, hP, hE]; (try (simp (disch := omega) only [wrap_i64, mul_i64, capOk_of]; (try simp [hg0, hs, hv, hd0, hd10, hl4, hle, hT44, hTm, hp, hP, hE]); trace "#ScaleFewest_ok.248 w")); rfl) ?_; trace "#ScaleFewest_ok.249 X")
  refine WOps.n hΓ 1 (by simp [hg0, hs, hv, hd0, hd10, hl4, hle, hT44, hTm, hp, hP, hE]; (try (simp (disch := omega) only [wrap_i64, mul_i64, capOk_of]; (try simp [hg0, hs, hv, hd0, hd10, hl4, hle, hT44, hTm, hp, hP, hE]); trace "#ScaleFewest_ok.250 w")); first | rfl | exact ⟨rfl, rfl⟩) rfl ?_
  refine WOps.endK ?_
  refine W.keep [3, 4, 5, 32] (by simp [hg0, hs, hv, hd0, hd10, hl4, hle, hT44, hTm, hp, hP, hE]; (try (simp (disch := omega) only [wrap_i64, mul_i64, capOk_of]; (try simp [hg0, hs, hv, hd0, hd10, hl4, hle, hT44, hTm, hp, hP, hE]); trace "#ScaleFewest_ok.251 w")); rfl) ?_
  refine W.cond (t := false) (by simp [hg0, hs, hv, hd0, hd10, hl4, hle, hT44, hTm, hp, hP, hE]; (try (simp (disch := omega) only [wrap_i64, mul_i64, capOk_of]; (try simp [hg0, hs, hv, hd0, hd10, hl4, hle, hT44, hTm, hp, hP, hE]); trace "#ScaleFewest_ok.252 w"))) ?_
  simp only [if_true,Bool.false_eq_true,if_false]
  refine W.skip ?_
  refine hK1 _ ?_
  clear hK1 K1
  refine W.seqk fun K5 hK5=>?_
  refine W.regK hΓ [3, 4, 5, 6] (by simp [hg0, hs, hv, hd0, hd10, hl4, hle, hT44, hTm, hp, hP, hE]; (try (simp (disch := omega) only [wrap_i64, mul_i64, capOk_of]; (try simp [hg0, hs, hv, hd0, hd10, hl4, hle, hT44, hTm, hp, hP, hE]); trace "#ScaleFewest_ok.253 w")); rfl) ?_
  refine W.block ?_
  refine W.loopU (α := Nat) [3, 4, 5] [39, 47, 56, 59] [] (fun n => [(6, I n)]) (fun n => []) (fun n => n ≤ T + 1 ∧ ∀ m, m < n → (betP s m []).2 = false) (fun n => T + 1 - n) 0 rfl (by simp [hg0, hs, hv, hd0, hd10, hl4, hle, hT44, hTm, hp, hP, hE]; (try (simp (disch := omega) only [wrap_i64, mul_i64, capOk_of]; (try simp [hg0, hs, hv, hd0, hd10, hl4, hle, hT44, hTm, hp, hP, hE]); trace "#ScaleFewest_ok.254 w")); rfl) (by simp [hg0, hs, hv, hd0, hd10, hl4, hle, hT44, hTm, hp, hP, hE]; (try (simp (disch := omega) only [wrap_i64, mul_i64, capOk_of]; (try simp [hg0, hs, hv, hd0, hd10, hl4, hle, hT44, hTm, hp, hP, hE]); trace "#ScaleFewest_ok.255 w")); rfl) (Le.fit (by simp [hg0, hs, hv, hd0, hd10, hl4, hle, hT44, hTm, hp, hP, hE]; (try (simp (disch := omega) only [wrap_i64, mul_i64, capOk_of]; (try simp [hg0, hs, hv, hd0, hd10, hl4, hle, hT44, hTm, hp, hP, hE]); trace "#ScaleFewest_ok.256 w")); rfl) (by rfl) (by rfl) (by rfl) ?_ ?_) ?_ ?_
  ·
   try (simp [hg0, hs, hv, hd0, hd10, hl4, hle, hT44, hTm, hp, hP, hE]; (try (simp (disch := omega) only [wrap_i64, mul_i64, capOk_of]; (try simp [hg0, hs, hv, hd0, hd10, hl4, hle, hT44, hTm, hp, hP, hE]); trace "#ScaleFewest_ok.257 w")))
   all_goals (
    first
      | (first | done | omega | (simp_all;done) | (simp_all;omega))
      | (trace "VC 10 init.tmps"; trace_state; sorry)
   )
  ·
   try (simp [hg0, hs, hv, hd0, hd10, hl4, hle, hT44, hTm, hp, hP, hE]; (try (simp (disch := omega) only [wrap_i64, mul_i64, capOk_of]; (try simp [hg0, hs, hv, hd0, hd10, hl4, hle, hT44, hTm, hp, hP, hE]); trace "#ScaleFewest_ok.258 w")))
   all_goals (
    first
      | (first | done | omega | (simp_all;done) | (simp_all;omega))
      | (trace "VC 11 init.objs"; trace_state; sorry)
   )
  ·
   first
     | (first | done | omega | (simp_all;done) | (simp_all;omega))
     | (trace "VC 12 init.inv"; trace_state; sorry)
  ·
   intro n hI0
   simp only [List.cons_append,List.nil_append]
   try dsimp only at hI0
   obtain ⟨hn,kb⟩:=hI0
   refine W.seqk fun K6 hK6=>?_
   refine W.regK hΓ [3, 4, 5, 6, 41] (by simp [hg0, hs, hv, hd0, hd10, hl4, hle, hT44, hTm, hp, hP, hE, hn]; (try (simp (disch := omega) only [wrap_i64, mul_i64, capOk_of]; (try simp [hg0, hs, hv, hd0, hd10, hl4, hle, hT44, hTm, hp, hP, hE, hn]); trace "#ScaleFewest_ok.259 w")); rfl) ?_
   refine W.ite (by simp [hg0, hs, hv, hd0, hd10, hl4, hle, hT44, hTm, hp, hP, hE, hn]; (try (simp (disch := omega) only [wrap_i64, mul_i64, capOk_of]; (try simp [hg0, hs, hv, hd0, hd10, hl4, hle, hT44, hTm, hp, hP, hE, hn]); trace "#ScaleFewest_ok.260 w")); first | rfl | exact (Bool.not_not _).symm) (fun hc6 => ?_) (fun hc6 => ?_)
   ·
    try simp at hc6
    refine W.skip ?_
    refine hK6 _ ?_
    clear hK6 K6
    refine W.seqk fun K7 hK7=>?_
    refine W.block ?_
    have hn44:n≤44:=by omega
    have qbt:=search_ok s hv n [] (psOk0 s) (by omega)
    have qba:=@bet_at s hv n kb
    obtain ⟨Q,qQ⟩:∃Q,betP s n []=Q:=⟨_,rfl⟩
    rw [qQ] at qbt qba
    refine W.seqR ?_
    refine WOps.n hΓ 2 (by simp [hg0, hs, hv, hd0, hd10, hl4, hle, hT44, hTm, hp, hP, hE, hn, hc6, hn44]; (try (simp (disch := omega) only [wrap_i64, mul_i64, capOk_of]; (try simp [hg0, hs, hv, hd0, hd10, hl4, hle, hT44, hTm, hp, hP, hE, hn, hc6, hn44]); trace "#ScaleFewest_ok.261 w")); first | rfl | exact ⟨rfl, rfl⟩) rfl ?_
    refine WOps.call rfl rfl rfl rfl [] rfl rfl (by decide) (by simp [hg0, hs, hv, hd0, hd10, hl4, hle, hT44, hTm, hp, hP, hE, hn, hc6, hn44]; (try (simp (disch := omega) only [wrap_i64, mul_i64, capOk_of]; (try simp [hg0, hs, hv, hd0, hd10, hl4, hle, hT44, hTm, hp, hP, hE, hn, hc6, hn44]); trace "#ScaleFewest_ok.262 w")); first | rfl | exact ⟨rfl, rfl⟩) (by simp [hg0, hs, hv, hd0, hd10, hl4, hle, hT44, hTm, hp, hP, hE, hn, hc6, hn44]; (try (simp (disch := omega) only [wrap_i64, mul_i64, capOk_of]; (try simp [hg0, hs, hv, hd0, hd10, hl4, hle, hT44, hTm, hp, hP, hE, hn, hc6, hn44]); trace "#ScaleFewest_ok.263 w")); rfl) ?_
    refine CallT.mk (qbt) (by simp [hg0, hs, hv, hd0, hd10, hl4, hle, hT44, hTm, hp, hP, hE, hn, hc6, hn44]; (try (simp (disch := omega) only [wrap_i64, mul_i64, capOk_of]; (try simp [hg0, hs, hv, hd0, hd10, hl4, hle, hT44, hTm, hp, hP, hE, hn, hc6, hn44]); trace "#ScaleFewest_ok.264 w"))) ?_
    refine WOps.norm (by simp [hg0, hs, hv, hd0, hd10, hl4, hle, hT44, hTm, hp, hP, hE, hn, hc6, hn44]; (try (simp (disch := omega) only [wrap_i64, mul_i64, capOk_of]; (try simp [hg0, hs, hv, hd0, hd10, hl4, hle, hT44, hTm, hp, hP, hE, hn, hc6, hn44]); trace "#ScaleFewest_ok.265 w")); rfl) ?_
    refine WOps.n hΓ 5 (by simp [hg0, hs, hv, hd0, hd10, hl4, hle, hT44, hTm, hp, hP, hE, hn, hc6, hn44]; (try (simp (disch := omega) only [wrap_i64, mul_i64, capOk_of]; (try simp [hg0, hs, hv, hd0, hd10, hl4, hle, hT44, hTm, hp, hP, hE, hn, hc6, hn44]); trace "#ScaleFewest_ok.266 w")); first | rfl | exact ⟨rfl, rfl⟩) rfl ?_
    refine WOps.endK ?_
    refine W.keep [3, 4, 5, 6, 7, 8] (by simp [hg0, hs, hv, hd0, hd10, hl4, hle, hT44, hTm, hp, hP, hE, hn, hc6, hn44]; (try (simp (disch := omega) only [wrap_i64, mul_i64, capOk_of]; (try simp [hg0, hs, hv, hd0, hd10, hl4, hle, hT44, hTm, hp, hP, hE, hn, hc6, hn44]); trace "#ScaleFewest_ok.267 w")); rfl) ?_
    by_cases hQ:Q.2=true
    ·
     have qPP:=(qba hQ).1
     have hQp:Q.1=p:=by rw [(qba hQ).2,←qp,(planL_yes hv qPP).1]
     refine W.regK hΓ [3, 4, 5, 6, 7, 50] (by simp [hg0, hs, hv, hd0, hd10, hl4, hle, hT44, hTm, hp, hP, hE, hn, hc6, hn44, hQ, hQp]; (try (simp (disch := omega) only [wrap_i64, mul_i64, capOk_of]; (try simp [hg0, hs, hv, hd0, hd10, hl4, hle, hT44, hTm, hp, hP, hE, hn, hc6, hn44, hQ, hQp]); trace "#ScaleFewest_ok.268 w")); rfl) ?_
     refine W.cond (t := true) (by simp [hg0, hs, hv, hd0, hd10, hl4, hle, hT44, hTm, hp, hP, hE, hn, hc6, hn44, hQ, hQp]; (try (simp (disch := omega) only [wrap_i64, mul_i64, capOk_of]; (try simp [hg0, hs, hv, hd0, hd10, hl4, hle, hT44, hTm, hp, hP, hE, hn, hc6, hn44, hQ, hQp]); trace "#ScaleFewest_ok.269 w"))) ?_
     simp only [if_true,Bool.false_eq_true,if_false]
     refine W.seqR ?_
     refine WOps.n hΓ 3 (by simp [hg0, hs, hv, hd0, hd10, hl4, hle, hT44, hTm, hp, hP, hE, hn, hc6, hn44, hQ, hQp]; (try (simp (disch := omega) only [wrap_i64, mul_i64, capOk_of]; (try simp [hg0, hs, hv, hd0, hd10, hl4, hle, hT44, hTm, hp, hP, hE, hn, hc6, hn44, hQ, hQp]); trace "#ScaleFewest_ok.270 w")); first | rfl | exact ⟨rfl, rfl⟩) rfl ?_
     refine WOps.gd rfl rfl (by simp [hg0, hs, hv, hd0, hd10, hl4, hle, hT44, hTm, hp, hP, hE, hn, hc6, hn44, hQ, hQp]; (try (simp (disch := omega) only [wrap_i64, mul_i64, capOk_of]; (try simp [hg0, hs, hv, hd0, hd10, hl4, hle, hT44, hTm, hp, hP, hE, hn, hc6, hn44, hQ, hQp]); trace "#ScaleFewest_ok.271 w")); first | rfl | exact (Bool.not_not _).symm) ?_
     first
     | ((with_reducible refine WG.isF ?_); refine WGf.mk rfl (by simp [hg0, hs, hv, hd0, hd10, hl4, hle, hT44, hTm, hp, hP, hE, hn, hc6, hn44, hQ, hQp]; (try (simp (disch := omega) only [wrap_i64, mul_i64, capOk_of]; (try simp [hg0, hs, hv, hd0, hd10, hl4, hle, hT44, hTm, hp, hP, hE, hn, hc6, hn44, hQ, hQp]); trace "#ScaleFewest_ok.272 w")); rfl) ?_; trace "#ScaleFewest_ok.277 F")
     | ((with_reducible refine WG.isT ?_); refine WGt.mk hΓ rfl (by simp [hg0, hs, hv, hd0, hd10, hl4, hle, hT44, hTm, hp, hP, hE, hn, hc6, hn44, hQ, hQp]; (try (simp (disch := omega) only [wrap_i64, mul_i64, capOk_of]; (try simp [hg0, hs, hv, hd0, hd10, hl4, hle, hT44, hTm, hp, hP, hE, hn, hc6, hn44, hQ, hQp]); trace "#ScaleFewest_ok.273 w")); first | rfl | exact ⟨rfl, rfl⟩) (by simp [hg0, hs, hv, hd0, hd10, hl4, hle, hT44, hTm, hp, hP, hE, hn, hc6, hn44, hQ, hQp]; (try (simp (disch := omega) only [wrap_i64, mul_i64, capOk_of]; (try simp [hg0, hs, hv, hd0, hd10, hl4, hle, hT44, hTm, hp, hP, hE, hn, hc6, hn44, hQ, hQp]); trace "#ScaleFewest_ok.274 w")); rfl) ?_; trace "#ScaleFewest_ok.277 T")
     | ((with_reducible refine WG.isX ?_); refine WGx.mk hΓ rfl rfl (by intro hg; (try simp at hg); simp [hg0, hs, hv, hd0, hd10, hl4, hle, hT44, hTm, hp, hP, hE, hn, hc6, hn44, hQ, hQp, hg, nth_eq, -getElem?_pos]; (try (simp (disch := omega) only [wrap_i64, mul_i64, capOk_of]; (try simp [hg0, hs, hv, hd0, hd10, hl4, hle, hT44, hTm, hp, hP, hE, hn, hc6, hn44, hQ, hQp, hg, nth_eq, -getElem?_pos]); trace "#ScaleFewest_ok.275 w")); rfl) (by simp [hg0, hs, hv, hd0, hd10, hl4, hle, hT44, hTm, hp, hP, hE, hn, hc6, hn44, hQ, hQp]; (try (simp (disch := omega) only [wrap_i64, mul_i64, capOk_of]; (try simp [hg0, hs, hv, hd0, hd10, hl4, hle, hT44, hTm, hp, hP, hE, hn, hc6, hn44, hQ, hQp]); trace "#ScaleFewest_ok.276 w")); rfl) ?_; trace "#ScaleFewest_ok.277 X")
     refine WOps.gd rfl rfl (by simp [hg0, hs, hv, hd0, hd10, hl4, hle, hT44, hTm, hp, hP, hE, hn, hc6, hn44, hQ, hQp]; (try (simp (disch := omega) only [wrap_i64, mul_i64, capOk_of]; (try simp [hg0, hs, hv, hd0, hd10, hl4, hle, hT44, hTm, hp, hP, hE, hn, hc6, hn44, hQ, hQp]); trace "#ScaleFewest_ok.278 w")); first | rfl | exact (Bool.not_not _).symm) ?_
     first
     | ((with_reducible refine WG.isF ?_); refine WGf.mk rfl (by simp [hg0, hs, hv, hd0, hd10, hl4, hle, hT44, hTm, hp, hP, hE, hn, hc6, hn44, hQ, hQp]; (try (simp (disch := omega) only [wrap_i64, mul_i64, capOk_of]; (try simp [hg0, hs, hv, hd0, hd10, hl4, hle, hT44, hTm, hp, hP, hE, hn, hc6, hn44, hQ, hQp]); trace "#ScaleFewest_ok.279 w")); rfl) ?_; trace "#ScaleFewest_ok.284 F")
     | ((with_reducible refine WG.isT ?_); refine WGt.mk hΓ rfl (by simp [hg0, hs, hv, hd0, hd10, hl4, hle, hT44, hTm, hp, hP, hE, hn, hc6, hn44, hQ, hQp]; (try (simp (disch := omega) only [wrap_i64, mul_i64, capOk_of]; (try simp [hg0, hs, hv, hd0, hd10, hl4, hle, hT44, hTm, hp, hP, hE, hn, hc6, hn44, hQ, hQp]); trace "#ScaleFewest_ok.280 w")); first | rfl | exact ⟨rfl, rfl⟩) (by simp [hg0, hs, hv, hd0, hd10, hl4, hle, hT44, hTm, hp, hP, hE, hn, hc6, hn44, hQ, hQp]; (try (simp (disch := omega) only [wrap_i64, mul_i64, capOk_of]; (try simp [hg0, hs, hv, hd0, hd10, hl4, hle, hT44, hTm, hp, hP, hE, hn, hc6, hn44, hQ, hQp]); trace "#ScaleFewest_ok.281 w")); rfl) ?_; trace "#ScaleFewest_ok.284 T")
     | ((with_reducible refine WG.isX ?_); refine WGx.mk hΓ rfl rfl (by intro hg; (try simp at hg); simp [hg0, hs, hv, hd0, hd10, hl4, hle, hT44, hTm, hp, hP, hE, hn, hc6, hn44, hQ, hQp, hg, nth_eq, -getElem?_pos]; (try (simp (disch := omega) only [wrap_i64, mul_i64, capOk_of]; (try simp [hg0, hs, hv, hd0, hd10, hl4, hle, hT44, hTm, hp, hP, hE, hn, hc6, hn44, hQ, hQp, hg, nth_eq, -getElem?_pos]); trace "#ScaleFewest_ok.282 w")); rfl) (by simp [hg0, hs, hv, hd0, hd10, hl4, hle, hT44, hTm, hp, hP, hE, hn, hc6, hn44, hQ, hQp]; (try (simp (disch := omega) only [wrap_i64, mul_i64, capOk_of]; (try simp [hg0, hs, hv, hd0, hd10, hl4, hle, hT44, hTm, hp, hP, hE, hn, hc6, hn44, hQ, hQp]); trace "#ScaleFewest_ok.283 w")); rfl) ?_; trace "#ScaleFewest_ok.284 X")
     refine WOps.gd rfl rfl (by simp [hg0, hs, hv, hd0, hd10, hl4, hle, hT44, hTm, hp, hP, hE, hn, hc6, hn44, hQ, hQp]; (try (simp (disch := omega) only [wrap_i64, mul_i64, capOk_of]; (try simp [hg0, hs, hv, hd0, hd10, hl4, hle, hT44, hTm, hp, hP, hE, hn, hc6, hn44, hQ, hQp]); trace "#ScaleFewest_ok.285 w")); first | rfl | exact (Bool.not_not _).symm) ?_
     first
     | ((with_reducible refine WG.isF ?_); refine WGf.mk rfl (by simp [hg0, hs, hv, hd0, hd10, hl4, hle, hT44, hTm, hp, hP, hE, hn, hc6, hn44, hQ, hQp]; (try (simp (disch := omega) only [wrap_i64, mul_i64, capOk_of]; (try simp [hg0, hs, hv, hd0, hd10, hl4, hle, hT44, hTm, hp, hP, hE, hn, hc6, hn44, hQ, hQp]); trace "#ScaleFewest_ok.286 w")); rfl) ?_; trace "#ScaleFewest_ok.294 F")
     | (
       (with_reducible refine WG.isT ?_)
       refine WGt.call rfl rfl rfl [] rfl rfl (by decide) (by simp [hg0, hs, hv, hd0, hd10, hl4, hle, hT44, hTm, hp, hP, hE, hn, hc6, hn44, hQ, hQp]; (try (simp (disch := omega) only [wrap_i64, mul_i64, capOk_of]; (try simp [hg0, hs, hv, hd0, hd10, hl4, hle, hT44, hTm, hp, hP, hE, hn, hc6, hn44, hQ, hQp]); trace "#ScaleFewest_ok.287 w")); first | rfl | exact ⟨rfl, rfl⟩) (by simp [hg0, hs, hv, hd0, hd10, hl4, hle, hT44, hTm, hp, hP, hE, hn, hc6, hn44, hQ, hQp]; (try (simp (disch := omega) only [wrap_i64, mul_i64, capOk_of]; (try simp [hg0, hs, hv, hd0, hd10, hl4, hle, hT44, hTm, hp, hP, hE, hn, hc6, hn44, hQ, hQp]); trace "#ScaleFewest_ok.288 w")); rfl) ?_
       refine CallT.mk (SameTests_ok p p) (by simp [hg0, hs, hv, hd0, hd10, hl4, hle, hT44, hTm, hp, hP, hE, hn, hc6, hn44, hQ, hQp]; (try (simp (disch := omega) only [wrap_i64, mul_i64, capOk_of]; (try simp [hg0, hs, hv, hd0, hd10, hl4, hle, hT44, hTm, hp, hP, hE, hn, hc6, hn44, hQ, hQp]); trace "#ScaleFewest_ok.289 w"))) ?_
       refine WOps.norm (by simp [hg0, hs, hv, hd0, hd10, hl4, hle, hT44, hTm, hp, hP, hE, hn, hc6, hn44, hQ, hQp]; (try (simp (disch := omega) only [wrap_i64, mul_i64, capOk_of]; (try simp [hg0, hs, hv, hd0, hd10, hl4, hle, hT44, hTm, hp, hP, hE, hn, hc6, hn44, hQ, hQp]); trace "#ScaleFewest_ok.290 w")); rfl) ?_; trace "#ScaleFewest_ok.294 T"
       )
     | ((with_reducible refine WG.isX ?_); refine WGx.call rfl rfl rfl (by decide) (by intro hg; (try simp at hg); exact ⟨_, _, _, _, rfl, (by simp [hg0, hs, hv, hd0, hd10, hl4, hle, hT44, hTm, hp, hP, hE, hn, hc6, hn44, hQ, hQp, hg, nth_eq, -getElem?_pos]; (try (simp (disch := omega) only [wrap_i64, mul_i64, capOk_of]; (try simp [hg0, hs, hv, hd0, hd10, hl4, hle, hT44, hTm, hp, hP, hE, hn, hc6, hn44, hQ, hQp, hg, nth_eq, -getElem?_pos]); trace "#ScaleFewest_ok.291 w")); first | rfl | exact ⟨rfl, rfl⟩), (by exact SameTests_ok p p), (by simp [hg0, hs, hv, hd0, hd10, hl4, hle, hT44, hTm, hp, hP, hE, hn, hc6, hn44, hQ, hQp, hg]; (try (simp (disch := omega) only [wrap_i64, mul_i64, capOk_of]; (try simp [hg0, hs, hv, hd0, hd10, hl4, hle, hT44, hTm, hp, hP, hE, hn, hc6, hn44, hQ, hQp, hg]); trace "#ScaleFewest_ok.292 w"))), by rfl⟩) (by simp [hg0, hs, hv, hd0, hd10, hl4, hle, hT44, hTm, hp, hP, hE, hn, hc6, hn44, hQ, hQp]; (try (simp (disch := omega) only [wrap_i64, mul_i64, capOk_of]; (try simp [hg0, hs, hv, hd0, hd10, hl4, hle, hT44, hTm, hp, hP, hE, hn, hc6, hn44, hQ, hQp]); trace "#ScaleFewest_ok.293 w")); rfl) ?_; trace "#ScaleFewest_ok.294 X")
     refine WOps.n hΓ 2 (by simp [hg0, hs, hv, hd0, hd10, hl4, hle, hT44, hTm, hp, hP, hE, hn, hc6, hn44, hQ, hQp]; (try (simp (disch := omega) only [wrap_i64, mul_i64, capOk_of]; (try simp [hg0, hs, hv, hd0, hd10, hl4, hle, hT44, hTm, hp, hP, hE, hn, hc6, hn44, hQ, hQp]); trace "#ScaleFewest_ok.295 w")); first | rfl | exact ⟨rfl, rfl⟩) rfl ?_
     refine WOps.gd rfl rfl (by simp [hg0, hs, hv, hd0, hd10, hl4, hle, hT44, hTm, hp, hP, hE, hn, hc6, hn44, hQ, hQp]; (try (simp (disch := omega) only [wrap_i64, mul_i64, capOk_of]; (try simp [hg0, hs, hv, hd0, hd10, hl4, hle, hT44, hTm, hp, hP, hE, hn, hc6, hn44, hQ, hQp]); trace "#ScaleFewest_ok.296 w")); first | rfl | exact (Bool.not_not _).symm) ?_
     first
     | ((with_reducible refine WG.isF ?_); refine WGf.mk rfl (by simp [hg0, hs, hv, hd0, hd10, hl4, hle, hT44, hTm, hp, hP, hE, hn, hc6, hn44, hQ, hQp]; (try (simp (disch := omega) only [wrap_i64, mul_i64, capOk_of]; (try simp [hg0, hs, hv, hd0, hd10, hl4, hle, hT44, hTm, hp, hP, hE, hn, hc6, hn44, hQ, hQp]); trace "#ScaleFewest_ok.297 w")); rfl) ?_; trace "#ScaleFewest_ok.305 F")
     | (
       (with_reducible refine WG.isT ?_)
       refine WGt.call rfl rfl rfl [] rfl rfl (by decide) (by simp [hg0, hs, hv, hd0, hd10, hl4, hle, hT44, hTm, hp, hP, hE, hn, hc6, hn44, hQ, hQp]; (try (simp (disch := omega) only [wrap_i64, mul_i64, capOk_of]; (try simp [hg0, hs, hv, hd0, hd10, hl4, hle, hT44, hTm, hp, hP, hE, hn, hc6, hn44, hQ, hQp]); trace "#ScaleFewest_ok.298 w")); first | rfl | exact ⟨rfl, rfl⟩) (by simp [hg0, hs, hv, hd0, hd10, hl4, hle, hT44, hTm, hp, hP, hE, hn, hc6, hn44, hQ, hQp]; (try (simp (disch := omega) only [wrap_i64, mul_i64, capOk_of]; (try simp [hg0, hs, hv, hd0, hd10, hl4, hle, hT44, hTm, hp, hP, hE, hn, hc6, hn44, hQ, hQp]); trace "#ScaleFewest_ok.299 w")); rfl) ?_
       refine CallT.mk (awake_ok) (by simp [hg0, hs, hv, hd0, hd10, hl4, hle, hT44, hTm, hp, hP, hE, hn, hc6, hn44, hQ, hQp]; (try (simp (disch := omega) only [wrap_i64, mul_i64, capOk_of]; (try simp [hg0, hs, hv, hd0, hd10, hl4, hle, hT44, hTm, hp, hP, hE, hn, hc6, hn44, hQ, hQp]); trace "#ScaleFewest_ok.300 w"))) ?_
       refine WOps.norm (by simp [hg0, hs, hv, hd0, hd10, hl4, hle, hT44, hTm, hp, hP, hE, hn, hc6, hn44, hQ, hQp]; (try (simp (disch := omega) only [wrap_i64, mul_i64, capOk_of]; (try simp [hg0, hs, hv, hd0, hd10, hl4, hle, hT44, hTm, hp, hP, hE, hn, hc6, hn44, hQ, hQp]); trace "#ScaleFewest_ok.301 w")); rfl) ?_; trace "#ScaleFewest_ok.305 T"
       )
     | ((with_reducible refine WG.isX ?_); refine WGx.call rfl rfl rfl (by decide) (by intro hg; (try simp at hg); exact ⟨_, _, _, _, rfl, (by simp [hg0, hs, hv, hd0, hd10, hl4, hle, hT44, hTm, hp, hP, hE, hn, hc6, hn44, hQ, hQp, hg, nth_eq, -getElem?_pos]; (try (simp (disch := omega) only [wrap_i64, mul_i64, capOk_of]; (try simp [hg0, hs, hv, hd0, hd10, hl4, hle, hT44, hTm, hp, hP, hE, hn, hc6, hn44, hQ, hQp, hg, nth_eq, -getElem?_pos]); trace "#ScaleFewest_ok.302 w")); first | rfl | exact ⟨rfl, rfl⟩), (by exact awake_ok), (by simp [hg0, hs, hv, hd0, hd10, hl4, hle, hT44, hTm, hp, hP, hE, hn, hc6, hn44, hQ, hQp, hg]; (try (simp (disch := omega) only [wrap_i64, mul_i64, capOk_of]; (try simp [hg0, hs, hv, hd0, hd10, hl4, hle, hT44, hTm, hp, hP, hE, hn, hc6, hn44, hQ, hQp, hg]); trace "#ScaleFewest_ok.303 w"))), by rfl⟩) (by simp [hg0, hs, hv, hd0, hd10, hl4, hle, hT44, hTm, hp, hP, hE, hn, hc6, hn44, hQ, hQp]; (try (simp (disch := omega) only [wrap_i64, mul_i64, capOk_of]; (try simp [hg0, hs, hv, hd0, hd10, hl4, hle, hT44, hTm, hp, hP, hE, hn, hc6, hn44, hQ, hQp]); trace "#ScaleFewest_ok.304 w")); rfl) ?_; trace "#ScaleFewest_ok.305 X")
     refine WOps.n hΓ 2 (by simp [hg0, hs, hv, hd0, hd10, hl4, hle, hT44, hTm, hp, hP, hE, hn, hc6, hn44, hQ, hQp]; (try (simp (disch := omega) only [wrap_i64, mul_i64, capOk_of]; (try simp [hg0, hs, hv, hd0, hd10, hl4, hle, hT44, hTm, hp, hP, hE, hn, hc6, hn44, hQ, hQp]); trace "#ScaleFewest_ok.306 w")); first | rfl | exact ⟨rfl, rfl⟩) rfl ?_
     refine WOps.endK ?_
     refine W.keep [2] (by simp [hg0, hs, hv, hd0, hd10, hl4, hle, hT44, hTm, hp, hP, hE, hn, hc6, hn44, hQ, hQp]; (try (simp (disch := omega) only [wrap_i64, mul_i64, capOk_of]; (try simp [hg0, hs, hv, hd0, hd10, hl4, hle, hT44, hTm, hp, hP, hE, hn, hc6, hn44, hQ, hQp]); trace "#ScaleFewest_ok.307 w")); rfl) ?_
     refine W.ret ?_
     refine br (tr (tr (br (tr ?_))))
     clear hK7 K7 hK5 K5
     refine EndQ.r false [] [] (by simp [hg0, hs, hv, hd0, hd10, hl4, hle, hT44, hTm, hp, hP, hE, hn, hc6, hn44, hQ, hQp]; (try (simp (disch := omega) only [wrap_i64, mul_i64, capOk_of]; (try simp [hg0, hs, hv, hd0, hd10, hl4, hle, hT44, hTm, hp, hP, hE, hn, hc6, hn44, hQ, hQp]); trace "#ScaleFewest_ok.308 w")); first | rfl | exact ⟨rfl, rfl⟩) ?_
     first
       | (first
          | exact ⟨rfl,rfl⟩
          | (simp_all;done)
          | (refine absurd qPP hP)
          | (refine absurd hP ?_;rw [bet_none hv kb (by omega)];decide))
       | (trace "VC 13 end"; trace_state; sorry)
    ·
     refine W.regK hΓ [3, 4, 5, 6, 7, 50] (by simp [hg0, hs, hv, hd0, hd10, hl4, hle, hT44, hTm, hp, hP, hE, hn, hc6, hn44, hQ]; (try (simp (disch := omega) only [wrap_i64, mul_i64, capOk_of]; (try simp [hg0, hs, hv, hd0, hd10, hl4, hle, hT44, hTm, hp, hP, hE, hn, hc6, hn44, hQ]); trace "#ScaleFewest_ok.309 w")); rfl) ?_
     refine W.cond (t := false) (by simp [hg0, hs, hv, hd0, hd10, hl4, hle, hT44, hTm, hp, hP, hE, hn, hc6, hn44, hQ]; (try (simp (disch := omega) only [wrap_i64, mul_i64, capOk_of]; (try simp [hg0, hs, hv, hd0, hd10, hl4, hle, hT44, hTm, hp, hP, hE, hn, hc6, hn44, hQ]); trace "#ScaleFewest_ok.310 w"))) ?_
     simp only [if_true,Bool.false_eq_true,if_false]
     refine W.skip ?_
     refine hK7 _ ?_
     clear hK7 K7
     refine W.regE hΓ (by simp [hg0, hs, hv, hd0, hd10, hl4, hle, hT44, hTm, hp, hP, hE, hn, hc6, hn44, hQ]; (try (simp (disch := omega) only [wrap_i64, mul_i64, capOk_of]; (try simp [hg0, hs, hv, hd0, hd10, hl4, hle, hT44, hTm, hp, hP, hE, hn, hc6, hn44, hQ]); trace "#ScaleFewest_ok.311 w")); rfl) ?_
     refine ⟨n + 1, Le.fit (by simp [hg0, hs, hv, hd0, hd10, hl4, hle, hT44, hTm, hp, hP, hE, hn, hc6, hn44, hQ]; (try (simp (disch := omega) only [wrap_i64, mul_i64, capOk_of]; (try simp [hg0, hs, hv, hd0, hd10, hl4, hle, hT44, hTm, hp, hP, hE, hn, hc6, hn44, hQ]); trace "#ScaleFewest_ok.312 w")); rfl) (by rfl) (by rfl) (by rfl) ?_ ?_, ?_, ?_⟩
     ·
      try (simp [hg0, hs, hv, hd0, hd10, hl4, hle, hT44, hTm, hp, hP, hE, hn, hc6, hn44, hQ]; (try (simp (disch := omega) only [wrap_i64, mul_i64, capOk_of]; (try simp [hg0, hs, hv, hd0, hd10, hl4, hle, hT44, hTm, hp, hP, hE, hn, hc6, hn44, hQ]); trace "#ScaleFewest_ok.313 w")))
      all_goals (
       first
         | (first | done | omega | (simp_all;done) | (simp_all;omega))
         | (trace "VC 14 back.tmps"; trace_state; sorry)
      )
     ·
      try (simp [hg0, hs, hv, hd0, hd10, hl4, hle, hT44, hTm, hp, hP, hE, hn, hc6, hn44, hQ]; (try (simp (disch := omega) only [wrap_i64, mul_i64, capOk_of]; (try simp [hg0, hs, hv, hd0, hd10, hl4, hle, hT44, hTm, hp, hP, hE, hn, hc6, hn44, hQ]); trace "#ScaleFewest_ok.314 w")))
      all_goals (
       first
         | (first | done | omega | (simp_all;done) | (simp_all;omega))
         | (trace "VC 15 back.objs"; trace_state; sorry)
      )
     ·
      first
        | (refine ⟨by omega,fun m' hm'=>?_⟩
           by_cases e:m'=n
           · rw [e,qQ];simpa using hQ
           · exact kb m' (by omega))
        | (trace "VC 16 back.inv"; trace_state; sorry)
     ·
      first
        | (first | done | omega | (simp_all;done) | (simp_all;omega))
        | (trace "VC 17 back.meas"; trace_state; sorry)
   ·
    try simp at hc6
    refine W.exit ?_
    refine hK5 _ ?_
    clear hK6 K6 hK5 K5
    refine W.seqR ?_
    refine WOps.n hΓ 3 (by simp [hg0, hs, hv, hd0, hd10, hl4, hle, hT44, hTm, hp, hP, hE, hn, hc6]; (try (simp (disch := omega) only [wrap_i64, mul_i64, capOk_of]; (try simp [hg0, hs, hv, hd0, hd10, hl4, hle, hT44, hTm, hp, hP, hE, hn, hc6]); trace "#ScaleFewest_ok.315 w")); first | rfl | exact ⟨rfl, rfl⟩) rfl ?_
    refine WOps.gd rfl rfl (by simp [hg0, hs, hv, hd0, hd10, hl4, hle, hT44, hTm, hp, hP, hE, hn, hc6]; (try (simp (disch := omega) only [wrap_i64, mul_i64, capOk_of]; (try simp [hg0, hs, hv, hd0, hd10, hl4, hle, hT44, hTm, hp, hP, hE, hn, hc6]); trace "#ScaleFewest_ok.316 w")); first | rfl | exact (Bool.not_not _).symm) ?_
    first
    | ((with_reducible refine WG.isF ?_); refine WGf.mk rfl (by simp [hg0, hs, hv, hd0, hd10, hl4, hle, hT44, hTm, hp, hP, hE, hn, hc6]; (try (simp (disch := omega) only [wrap_i64, mul_i64, capOk_of]; (try simp [hg0, hs, hv, hd0, hd10, hl4, hle, hT44, hTm, hp, hP, hE, hn, hc6]); trace "#ScaleFewest_ok.317 w")); rfl) ?_; trace "#ScaleFewest_ok.325 F")
    | (
      (with_reducible refine WG.isT ?_)
      refine WGt.call rfl rfl rfl [] rfl rfl (by decide) (by simp [hg0, hs, hv, hd0, hd10, hl4, hle, hT44, hTm, hp, hP, hE, hn, hc6]; (try (simp (disch := omega) only [wrap_i64, mul_i64, capOk_of]; (try simp [hg0, hs, hv, hd0, hd10, hl4, hle, hT44, hTm, hp, hP, hE, hn, hc6]); trace "#ScaleFewest_ok.318 w")); first | rfl | exact ⟨rfl, rfl⟩) (by simp [hg0, hs, hv, hd0, hd10, hl4, hle, hT44, hTm, hp, hP, hE, hn, hc6]; (try (simp (disch := omega) only [wrap_i64, mul_i64, capOk_of]; (try simp [hg0, hs, hv, hd0, hd10, hl4, hle, hT44, hTm, hp, hP, hE, hn, hc6]); trace "#ScaleFewest_ok.319 w")); rfl) ?_
      refine CallT.mk (awake_ok) (by simp [hg0, hs, hv, hd0, hd10, hl4, hle, hT44, hTm, hp, hP, hE, hn, hc6]; (try (simp (disch := omega) only [wrap_i64, mul_i64, capOk_of]; (try simp [hg0, hs, hv, hd0, hd10, hl4, hle, hT44, hTm, hp, hP, hE, hn, hc6]); trace "#ScaleFewest_ok.320 w"))) ?_
      refine WOps.norm (by simp [hg0, hs, hv, hd0, hd10, hl4, hle, hT44, hTm, hp, hP, hE, hn, hc6]; (try (simp (disch := omega) only [wrap_i64, mul_i64, capOk_of]; (try simp [hg0, hs, hv, hd0, hd10, hl4, hle, hT44, hTm, hp, hP, hE, hn, hc6]); trace "#ScaleFewest_ok.321 w")); rfl) ?_; trace "#ScaleFewest_ok.325 T"
      )
    | ((with_reducible refine WG.isX ?_); refine WGx.call rfl rfl rfl (by decide) (by intro hg; (try simp at hg); exact ⟨_, _, _, _, rfl, (by simp [hg0, hs, hv, hd0, hd10, hl4, hle, hT44, hTm, hp, hP, hE, hn, hc6, hg, nth_eq, -getElem?_pos]; (try (simp (disch := omega) only [wrap_i64, mul_i64, capOk_of]; (try simp [hg0, hs, hv, hd0, hd10, hl4, hle, hT44, hTm, hp, hP, hE, hn, hc6, hg, nth_eq, -getElem?_pos]); trace "#ScaleFewest_ok.322 w")); first | rfl | exact ⟨rfl, rfl⟩), (by exact awake_ok), (by simp [hg0, hs, hv, hd0, hd10, hl4, hle, hT44, hTm, hp, hP, hE, hn, hc6, hg]; (try (simp (disch := omega) only [wrap_i64, mul_i64, capOk_of]; (try simp [hg0, hs, hv, hd0, hd10, hl4, hle, hT44, hTm, hp, hP, hE, hn, hc6, hg]); trace "#ScaleFewest_ok.323 w"))), by rfl⟩) (by simp [hg0, hs, hv, hd0, hd10, hl4, hle, hT44, hTm, hp, hP, hE, hn, hc6]; (try (simp (disch := omega) only [wrap_i64, mul_i64, capOk_of]; (try simp [hg0, hs, hv, hd0, hd10, hl4, hle, hT44, hTm, hp, hP, hE, hn, hc6]); trace "#ScaleFewest_ok.324 w")); rfl) ?_; trace "#ScaleFewest_ok.325 X")
    refine WOps.n hΓ 2 (by simp [hg0, hs, hv, hd0, hd10, hl4, hle, hT44, hTm, hp, hP, hE, hn, hc6]; (try (simp (disch := omega) only [wrap_i64, mul_i64, capOk_of]; (try simp [hg0, hs, hv, hd0, hd10, hl4, hle, hT44, hTm, hp, hP, hE, hn, hc6]); trace "#ScaleFewest_ok.326 w")); first | rfl | exact ⟨rfl, rfl⟩) rfl ?_
    refine WOps.endK ?_
    refine W.keep [2] (by simp [hg0, hs, hv, hd0, hd10, hl4, hle, hT44, hTm, hp, hP, hE, hn, hc6]; (try (simp (disch := omega) only [wrap_i64, mul_i64, capOk_of]; (try simp [hg0, hs, hv, hd0, hd10, hl4, hle, hT44, hTm, hp, hP, hE, hn, hc6]); trace "#ScaleFewest_ok.327 w")); rfl) ?_
    refine W.ret ?_
    refine EndQ.r false [] [] (by simp [hg0, hs, hv, hd0, hd10, hl4, hle, hT44, hTm, hp, hP, hE, hn, hc6]; (try (simp (disch := omega) only [wrap_i64, mul_i64, capOk_of]; (try simp [hg0, hs, hv, hd0, hd10, hl4, hle, hT44, hTm, hp, hP, hE, hn, hc6]); trace "#ScaleFewest_ok.328 w")); first | rfl | exact ⟨rfl, rfl⟩) ?_
    first
      | (first
         | exact ⟨rfl,rfl⟩
         | (simp_all;done)
         | (refine absurd qPP hP)
         | (refine absurd hP ?_;rw [bet_none hv kb (by omega)];decide))
      | (trace "VC 18 end"; trace_state; sorry)
end Go.Sim
