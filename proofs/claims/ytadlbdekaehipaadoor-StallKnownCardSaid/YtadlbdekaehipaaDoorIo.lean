/- StallKnown: the chapter's examples. -/
import Derived.Test.YtadlbdekaehipaaDoorIz
import Derived.Test.YtadlbdekaehipaaDoorRv
import Derived.Test.YtadlbdekaehipaaDoorLs
namespace Go.Sim
set_option maxHeartbeats 4000000
open Go.Proofs
set_option maxRecDepth 100000
set_option linter.unusedSimpArgs false
set_option linter.unusedVariables false
attribute [-simp] List.map_set List.map_take List.map_drop
theorem hall_ownS  : ACalls Tryd.prog 4 [] [] (fun r o=>r = .agg [.own 20000 0 3,apps hallL.apps]∧o=[(20000,.row true 29 3 [S3 ⟨1,100, -1⟩,S3 ⟨2,200, -1⟩,S3 ⟨3,300,2⟩])]):=by
 have F:=Fx.nil
 refine ent Tryd.func4 Tryd.ntmps4 Tryd.results4 ?_
 refine rK [0] ?_
 refine W.seqR ?_
 refine oN 16 ?_
 refine fz 40 ?_
 refine fz 48 ?_
 refine fz 64 ?_
 refine fz 72 ?_
 refine fz 88 ?_
 refine fz 96 ?_
 refine fz 112 ?_
 refine fz 120 ?_
 refine oN 3 ?_
 refine oK [0] ?_
 refine W.ret ?_
 refine er false [136] [(20000,32)] ?_
 exact ⟨rfl,rfl⟩
theorem hall_ownA  : ACalls Tryd.prog 4 [] [] (fun r o=>r = .agg [stalls hallL.stalls,.own 20000 0 4]∧o=[(20000,.row true 31 4 [A4 ⟨5,7,[1,0],[0,0]⟩,A4 ⟨9,11,[1,2],[0,500]⟩,A4 ⟨2,5,[0,2],[0,300]⟩,A4 ⟨5,4,[2,1,0],[400,0,0]⟩])]):=by
 have F:=Fx.nil
 refine ent Tryd.func4 Tryd.ntmps4 Tryd.results4 ?_
 refine rK [0] ?_
 refine W.seqR ?_
 refine oN 16 ?_
 refine fz 40 ?_
 refine fz 48 ?_
 refine fz 64 ?_
 refine fz 72 ?_
 refine fz 88 ?_
 refine fz 96 ?_
 refine fz 112 ?_
 refine fz 120 ?_
 refine oN 3 ?_
 refine oK [0] ?_
 refine W.ret ?_
 refine er false [32] [(20000,136)] ?_
 exact ⟨rfl,rfl⟩
theorem chk_e (l:Lett){e:Int}(h:checkL l=e):ACalls Tryd.prog 6 [letV l] [] (fun r o=>r=I e∧o=[]):=h▸Check_ok l
theorem draw_e:ACalls Tryd.prog 7 [letV tokenX] [] (fun r o=>r = .tup [ints [0,2,1,3],I 0]∧o=[]):=by
  have k:=DrawA_ok tokenX
  rw [ey_token.1,ey_token.2] at k
  exact k
theorem rank_e (l:Lett) (n:Int){z:List Int}(h:rankA l n=z∧rankE l n=0):ACalls Tryd.prog 9 [letV l,I n] [] (fun r o=>r = .tup [ints z,I 0]∧o=[]):=by
  have k:=RanksA_ok l n
  rw [h.1,h.2] at k
  exact k
theorem let_e:ACalls Tryd.prog 10 [letV threeX] [] (fun r o=>r = .tup [ints [2,1, -1],I 0]∧o=[]):=by
  refine (LetA_ok threeX).mono fun r o h=>?_
  obtain ⟨z,h1,h2,h3⟩:=h
  rw [h1,three_one h3,ey_three]
  exact ⟨rfl,h2⟩
theorem hold_e (h:List Int){e:Int}(k:checkH hallL h=e):ACalls Tryd.prog 11 [letV hallL,ints h] [] (fun r o=>r=I e∧o=[]):=k▸CheckHolders_ok hallL h
theorem env_e (h:List Int){z:List (Int×Int)}(k:checkH hallL h=0) (q:envA hallL h=z):ACalls Tryd.prog 12 [letV hallL,ints h] [] (fun r o=>r = .tup [envs z,I 0]∧o=[]):=by
  have g:=EnvA_ok hallL h
  rw [k,q] at g
  exact g
theorem rent_e (h:List Int){z:List Int}(k:checkH hallL h=0) (q:rentA hallL h=z):ACalls Tryd.prog 13 [letV hallL,ints h] [] (fun r o=>r = .tup [ints z,I 0]∧o=[]):=by
  have g:=RentA_ok hallL h
  rw [k,q] at g
  exact g
theorem write_e (ob:Lb):ACalls Tryd.prog 14 [letV hallL] [(10900,tabO ob)] (fun r o=>r = .tup [txtA (wr2 hallL),I 0]∧o=[(10900,tabO ob)]):=by
  have g:=Write_ok ob hallL
  rw [wr2X,if_pos ey_hall,ey_hall] at g
  exact g
theorem StallKnown_ok (ob:Lb):ACalls Tryd.prog 3 [] [(10900,tabO ob)] (fun r o=>r=B true∧o=[(10900,tabO ob)]):=by
 have F:=Fx.nil
 refine ent Tryd.func3 Tryd.ntmps3 Tryd.results3 ?_
 have hlen:hallL.apps.length=4:=rfl
 replace F:=F.add hlen
 refine rK [] ?_
 refine W.seqR ?_
 refine oC [] ?_
 refine ct (hall_ownS) ?_
 refine oC [] ?_
 refine ct (hall_ownA) ?_
 refine oC [] ?_
 refine ct (hall_ownA) ?_
 refine oC [] ?_
 refine ct (hall_ownA) ?_
 refine oC [] ?_
 refine ct (hall_ownA) ?_
 refine oC [] ?_
 refine ct (hall_ok) ?_
 refine oN 12 ?_
 refine oK [1,2,3,4,5,6] ?_
 refine wD 31 [(18,[200]),(21,[208]),(24,[216]),(27,[224]),(30,[232])] [[],[0],[],[2],[],[4],[],[6],[],[8],[],[],[],[],[13],[13,14],[0,1],[1,0,16],[16,0,1,17],[18,17,16,10,1,0,2,3],[3,2,0,1,10,16,17,18,19],[19,18,17,16,10,1,0,2,3,20],[21,20,19,18,17,16,11,10,3,2,1,0,4,5],[5,4,0,1,2,3,10,11,16,17,18,19,20,21,22],[22,21,20,19,18,17,16,11,10,3,2,1,0,4,5,23],[24,23,22,21,20,19,18,17,16,11,10,5,4,3,2,1,0,6,7],[7,6,0,1,2,3,4,5,10,11,16,17,18,19,20,21,22,23,24,25],[25,24,23,22,21,20,19,18,17,16,11,10,5,4,3,2,1,0,6,7,26],[27,26,25,24,23,22,21,20,19,18,17,16,12,11,10,7,6,5,4,3,2,1,0,8,9],[9,8,0,1,2,3,4,5,6,7,10,11,12,16,17,18,19,20,21,22,23,24,25,26,27,28],[28,27,26,25,24,23,22,21,20,19,18,17,16,12,11,10,7,6,5,4,3,2,1,0,8,9,29],[30,29,28,27,26,25,24,23,22,21,20,19,18,17,16,15,14,13,12,11,10,9,8,7,6,5,4,3,2,1,0],[0,1,2,3,4,5,6,7,8,9,10,11,12,13,14,15,16,17,18,19,20,21,22,23,24,25,26,27,28,29,30,31]] ?_
 refine dB [([33,34,35,36,37,38,39,40,41,42,43,44,45,46],[],[]),([33,34,35,36,37,38,39,40,41,42,43,44,45,46],[true],[]),([31,32,35,36,37,38,39,40,41,42,43,44,45,46,47,48],[false,false],[200]),([31,32,35,36,37,38,39,40,41,42,43,44,45,46,47,48],[false,false,true],[200]),([31,32,33,34,37,38,39,40,41,42,43,44,45,46,47,48,49,50],[false,false,false,false],[200,208]),([31,32,33,34,37,38,39,40,41,42,43,44,45,46,47,48,49,50],[false,false,false,false,true],[200,208]),([31,32,33,34,35,36,39,40,41,42,43,44,45,46,47,48,49,50,51,52],[false,false,false,false,false,false],[200,208,216]),([31,32,33,34,35,36,39,40,41,42,43,44,45,46,47,48,49,50,51,52],[false,false,false,false,false,false,true],[200,208,216]),([31,32,33,34,35,36,37,38,41,42,43,44,45,46,47,48,49,50,51,52,53,54],[false,false,false,false,false,false,false,false],[200,208,216,224]),([31,32,33,34,35,36,37,38,41,42,43,44,45,46,47,48,49,50,51,52,53,54],[false,false,false,false,false,false,false,false,true],[200,208,216,224])] 21 10 ?_
 refine WDraw.bldI hΓ (viewB_eq (L:=[31,32,33,34,35,36,37,38,39,40,42,43,44,45,46,47,48]) (S:=[false,false,false,false,false,false,false,false,false,false]) (O:=[200]) (by kernel_rfl) (by kernel_rfl) (by simp [hlen];rfl)) (by first | rfl | simp) (by simp [hlen];first | rfl | exact ⟨rfl,rfl⟩) (by simp [hlen,imD];first | rfl | exact ⟨rfl,rfl⟩) (by first | rfl | simp) (by simp [hlen];first | done | rfl) (by simp [hlen];rfl) ?_
 refine WDraw.bldI hΓ (viewB_eq (L:=[31,32,33,34,35,36,37,38,39,40,41,43,44,45,46,47,48,49,50]) (S:=[false,false,false,false,false,false,false,false,false,false,false]) (O:=[200,208]) (by kernel_rfl) (by kernel_rfl) (by simp [hlen];rfl)) (by first | rfl | simp) (by simp [hlen];first | rfl | exact ⟨rfl,rfl⟩) (by simp [hlen,imD];first | rfl | exact ⟨rfl,rfl⟩) (by first | rfl | simp) (by simp [hlen];first | done | rfl) (by simp [hlen];rfl) ?_
 refine WDraw.bldI hΓ (viewB_eq (L:=[31,32,33,34,35,36,37,38,39,40,41,42,44,45,46,47,48,49,50,51,52,53,54]) (S:=[false,false,false,false,false,false,false,false,false,false,false,false]) (O:=[200,208,216,224]) (by kernel_rfl) (by kernel_rfl) (by simp [hlen];rfl)) (by first | rfl | simp) (by simp [hlen];first | rfl | exact ⟨rfl,rfl⟩) (by simp [hlen,imD];first | rfl | exact ⟨rfl,rfl⟩) (by first | rfl | simp) (by simp [hlen];first | done | rfl) (by simp [hlen];rfl) ?_
 refine dB [([31,32,33,34,35,36,37,38,39,40,41,42,43,47,48,49,50,51,52,53,54,55,56],[false,false,false,false,false,false,false,false,false,false,false,false,false],[200,208,216,224,232]),([31,32,33,34,35,36,37,38,39,40,41,42,43,47,48,49,50,51,52,53,54,55,56],[false,false,false,false,false,false,false,false,false,false,false,false,false,true],[200,208,216,224,232]),([31,32,33,34,35,36,37,38,39,40,41,42,43,47,48,49,50,51,52,53,54,55,56],[false,false,false,false,false,false,false,false,false,false,false,false,false,true,true],[200,208,216,224,232]),([33,34,35,36,37,38,39,40,41,42,43,44,45,46],[true,true,false,false,false,false,false,false,false,false,false,false,false,false,false,false],[]),([33,34,35,36,37,38,39,40,41,42,43,44,45,46],[true,true,false,false,false,false,false,false,false,false,false,false,false,false,false,false,true],[])] 13 18 ?_
 refine WDraw.upd hΓ [200] (viewB_eq (L:=[33,34,35,36,37,38,39,40,41,42,43,44,45,46]) (S:=[true,true,false,false,false,false,false,false,false,false,false,false,false,false,false,false,true,true]) (O:=[]) (by kernel_rfl) (by kernel_rfl) (by simp [hlen];rfl)) (by first | rfl | simp) (by simp [hlen];first | rfl | exact ⟨rfl,rfl⟩) (by simp [hlen];first | done | rfl) (.inr (by simp)) (by simp [hlen];rfl) ?_
 refine dB [([35,36,37,38,39,40,42,43,44,45,46],[true,true,true,true,false,false,false,false,false,false,true,false,false,false,false,false,true,true,true],[]),([35,36,37,38,39,40,42,43,44,45,46],[true,true,true,true,false,false,false,false,false,false,true,false,false,false,false,false,true,true,true,true],[])] 10 21 ?_
 refine WDraw.upd hΓ [208] (viewB_eq (L:=[35,36,37,38,39,40,42,43,44,45,46]) (S:=[true,true,true,true,false,false,false,false,false,false,true,false,false,false,false,false,true,true,true,true,true]) (O:=[]) (by kernel_rfl) (by kernel_rfl) (by simp [hlen];rfl)) (by first | rfl | simp) (by simp [hlen];first | rfl | exact ⟨rfl,rfl⟩) (by simp [hlen];first | done | rfl) (.inr (by simp)) (by simp [hlen];rfl) ?_
 refine dB [([37,38,39,40,43,44,45,46],[true,true,true,true,true,true,false,false,false,false,true,true,false,false,false,false,true,true,true,true,true,true],[]),([37,38,39,40,43,44,45,46],[true,true,true,true,true,true,false,false,false,false,true,true,false,false,false,false,true,true,true,true,true,true,true],[])] 7 24 ?_
 refine WDraw.upd hΓ [216] (viewB_eq (L:=[37,38,39,40,43,44,45,46]) (S:=[true,true,true,true,true,true,false,false,false,false,true,true,false,false,false,false,true,true,true,true,true,true,true,true]) (O:=[]) (by kernel_rfl) (by kernel_rfl) (by simp [hlen];rfl)) (by first | rfl | simp) (by simp [hlen];first | rfl | exact ⟨rfl,rfl⟩) (by simp [hlen];first | done | rfl) (.inr (by simp)) (by simp [hlen];rfl) ?_
 refine dB [([39,40,43,44,45,46],[true,true,true,true,true,true,true,true,false,false,true,true,false,false,false,false,true,true,true,true,true,true,true,true,true],[]),([39,40,43,44,45,46],[true,true,true,true,true,true,true,true,false,false,true,true,false,false,false,false,true,true,true,true,true,true,true,true,true,true],[])] 4 27 ?_
 refine WDraw.upd hΓ [224] (viewB_eq (L:=[39,40,43,44,45,46]) (S:=[true,true,true,true,true,true,true,true,false,false,true,true,false,false,false,false,true,true,true,true,true,true,true,true,true,true,true]) (O:=[]) (by kernel_rfl) (by kernel_rfl) (by simp [hlen];rfl)) (by first | rfl | simp) (by simp [hlen];first | rfl | exact ⟨rfl,rfl⟩) (by simp [hlen];first | done | rfl) (.inr (by simp)) (by simp [hlen];rfl) ?_
 refine dB [([44,45,46],[true,true,true,true,true,true,true,true,true,true,true,true,true,false,false,false,true,true,true,true,true,true,true,true,true,true,true,true],[]),([44,45,46],[true,true,true,true,true,true,true,true,true,true,true,true,true,false,false,false,true,true,true,true,true,true,true,true,true,true,true,true,true],[])] 1 30 ?_
 refine WDraw.upd hΓ [232] (viewB_eq (L:=[44,45,46]) (S:=[true,true,true,true,true,true,true,true,true,true,true,true,true,false,false,false,true,true,true,true,true,true,true,true,true,true,true,true,true,true]) (O:=[]) (by kernel_rfl) (by kernel_rfl) (by simp [hlen];rfl)) (by first | rfl | simp) (by simp [hlen];first | rfl | exact ⟨rfl,rfl⟩) (by simp [hlen];first | done | rfl) (.inr (by simp)) (by simp [hlen];rfl) ?_
 refine dD ?_
 refine WOps.le Le.dedup rfl rfl ?_
 refine WOps.norm (by simp [hlen];rfl) ?_
 refine oN 2 ?_
 refine oK [1,2,3,4,5,6] ?_
 refine W.seqk fun K1 hK1=>?_
 refine W.weaken (Le.freeze (id:=200) (by simp [hlen];rfl)) ?_
 refine W.weaken (Le.freeze (id:=208) (by simp [hlen];rfl)) ?_
 refine W.weaken (Le.freeze (id:=216) (by simp [hlen];rfl)) ?_
 refine W.weaken (Le.freeze (id:=224) (by simp [hlen];rfl)) ?_
 refine W.weaken (Le.freeze (id:=232) (by simp [hlen];rfl)) ?_
 refine W.seqR ?_
 refine oC [] ?_
 refine ct (awake_ok) ?_
 refine oN 2 ?_
 refine gC [] ?_
 refine ct (hall_ok) ?_
 refine gC [] ?_
 refine ct (chk_e hallL ey_hall) ?_
 refine gT ?_
 refine oN 2 ?_
 refine gT ?_
 refine gC [] ?_
 refine ct (chk_e heirX ey_heir) ?_
 refine gT ?_
 refine oN 2 ?_
 refine gT ?_
 refine gC [] ?_
 refine ct (chk_e twiceX ey_twice) ?_
 refine gT ?_
 refine oN 2 ?_
 refine gT ?_
 refine gC [] ?_
 refine ct (chk_e bidsX ey_bids) ?_
 refine gT ?_
 refine oN 1 ?_
 refine oK [4,5,6,79] ?_
 refine cF ?_
 refine W.skip ?_
 refine hK1 _ ?_
 clear hK1 K1
 refine W.seqR ?_
 refine oN 1 ?_
 refine oC [] ?_
 refine ct (draw_e) ?_
 refine oN 5 ?_
 refine oK [5,6,7,8] ?_
 refine W.seqk fun K2 hK2=>?_
 refine W.seqR ?_
 refine oN 3 ?_
 refine gT ?_
 refine gT ?_
 refine gC [] ?_
 refine ct (SameInts_ok [0,2,1,3] [0,2,1,3]) ?_
 refine gT ?_
 refine oN 1 ?_
 refine oK [5,6,92] ?_
 refine cF ?_
 refine W.skip ?_
 refine hK2 _ ?_
 clear hK2 K2
 refine wD 13 [] [[],[0],[0,1],[],[3,2,1,0],[],[],[],[],[],[9,8,7,6],[0,1,2,3,4],[4,3,2,1,0,11,5],[5,11,0,1,2,3,4,12,6,7,8,9,10]] ?_
 refine dC [96,98,99,100,101,102,103] [] [] [] ?_
 refine cd (hall_ok) ?_
 refine dC [96,98,99,100,101,102,103] [true] [] [] ?_
 refine cd (hall_ok) ?_
 refine dC [96,98,99,100,101,102,103] [true,true] [] [] ?_
 refine cd (hall_ok) ?_
 refine dB [([93,94,95,98,99,100,101,102,103],[false,false,false],[])] 9 4 ?_
 refine WDraw.bldI hΓ (viewB_eq (L:=[98,99,100,101,102,103]) (S:=[true,true,true,true]) (O:=[]) (by kernel_rfl) (by kernel_rfl) (by simp [hlen];rfl)) (by first | rfl | simp) (by simp [hlen];first | rfl | exact ⟨rfl,rfl⟩) (by simp [hlen,imD];first | rfl | exact ⟨rfl,rfl⟩) (by first | rfl | simp) (by simp [hlen];first | done | rfl) (by simp [hlen];rfl) ?_
 refine WDraw.bldI hΓ (viewB_eq (L:=[93,94,95,96,97,99,100,101,102,103,9]) (S:=[false,false,false,false,false]) (O:=[]) (by kernel_rfl) (by kernel_rfl) (by simp [hlen];rfl)) (by first | rfl | simp) (by simp [hlen];first | rfl | exact ⟨rfl,rfl⟩) (by simp [hlen,imD];first | rfl | exact ⟨rfl,rfl⟩) (by first | rfl | simp) (by simp [hlen];first | done | rfl) (by simp [hlen];rfl) ?_
 refine WDraw.bldI hΓ (viewB_eq (L:=[93,94,95,96,97,98,100,101,102,9,10]) (S:=[false,false,false,false,false,false]) (O:=[]) (by kernel_rfl) (by kernel_rfl) (by simp [hlen];rfl)) (by first | rfl | simp) (by simp [hlen];first | rfl | exact ⟨rfl,rfl⟩) (by simp [hlen,imD];first | rfl | exact ⟨rfl,rfl⟩) (by first | rfl | simp) (by simp [hlen];first | done | rfl) (by simp [hlen];rfl) ?_
 refine WDraw.bldI hΓ (viewB_eq (L:=[93,94,95,96,97,98,99,101,102,9,10]) (S:=[false,false,false,false,false,false,false]) (O:=[]) (by kernel_rfl) (by kernel_rfl) (by simp [hlen];rfl)) (by first | rfl | simp) (by simp [hlen];first | rfl | exact ⟨rfl,rfl⟩) (by simp [hlen,imD];first | rfl | exact ⟨rfl,rfl⟩) (by first | rfl | simp) (by simp [hlen];first | done | rfl) (by simp [hlen];rfl) ?_
 refine WDraw.bldI hΓ (viewB_eq (L:=[93,94,95,96,97,98,99,100,102,9,10]) (S:=[false,false,false,false,false,false,false,false]) (O:=[]) (by kernel_rfl) (by kernel_rfl) (by simp [hlen];rfl)) (by first | rfl | simp) (by simp [hlen];first | rfl | exact ⟨rfl,rfl⟩) (by simp [hlen,imD];first | rfl | exact ⟨rfl,rfl⟩) (by first | rfl | simp) (by simp [hlen];first | done | rfl) (by simp [hlen];rfl) ?_
 refine WDraw.bldI hΓ (viewB_eq (L:=[93,94,95,96,97,98,99,100,101,9,10]) (S:=[false,false,false,false,false,false,false,false,false]) (O:=[]) (by kernel_rfl) (by kernel_rfl) (by simp [hlen];rfl)) (by first | rfl | simp) (by simp [hlen];first | rfl | exact ⟨rfl,rfl⟩) (by simp [hlen,imD];first | rfl | exact ⟨rfl,rfl⟩) (by first | rfl | simp) (by simp [hlen];first | done | rfl) (by simp [hlen];rfl) ?_
 refine WDraw.bldI hΓ (viewB_eq (L:=[93,94,95,96,97,98,9,10]) (S:=[false,false,false,false,false,false,true,true,true,true]) (O:=[]) (by kernel_rfl) (by kernel_rfl) (by simp [hlen];rfl)) (by first | rfl | simp) (by simp [hlen];first | rfl | exact ⟨rfl,rfl⟩) (by simp [hlen,imD];first | rfl | exact ⟨rfl,rfl⟩) (by first | rfl | simp) (by simp [hlen];first | done | rfl) (by simp [hlen];rfl) ?_
 refine dB [([98,99,100,101,102,103],[true,true,true,true,true,false,false,false,false,false,false],[]),([99,100,101,102,103],[true,true,true,true,true,true,false,false,false,false,false,true],[])] 0 13 ?_
 refine dD ?_
 refine oN 1 ?_
 refine oK [6,9,10,11] ?_
 refine W.seqk fun K3 hK3=>?_
 refine rK [6,9,10,11,12] ?_
 refine W.block ?_
 refine lpa (α:=Nat) [6,9,10,11] [106,119,130] [] (fun i=>[(12,I i)]) (fun i=>[]) (fun i=>i≤4) (fun i=>4-i) 0 v0 ?_
 ·
  intro i hI0
  simp only [List.cons_append,List.nil_append]
  try dsimp only at hI0
  replace F:=F.add hI0
  refine W.seqk fun K4 hK4=>?_
  refine rK [6,9,10,11,12,107] ?_
  refine it (fun hc3=>?_) (fun hc3=>?_)
  ·
   try simp at hc3
   replace F:=F.add hc3
   refine W.skip ?_
   refine hK4 _ ?_
   clear hK4 K4
   refine W.seqk fun K5 hK5=>?_
   refine W.block ?_
   by_cases h0:i=0
   ·
    replace F:=F.add h0
    subst h0
    have h0:True:=trivial
    replace F:=F.add h0
    refine wD 13 [] [[],[],[1,0],[0,1,2],[],[],[5,4],[4,5,6],[6,5,4,7,2,1,0,3],[3,0,1,2,7,4,5,6,8],[8,6,5,4,7,2,1,0,3,9],[8,6,5,4,7,2,1,0,3,9],[9,3,0,1,2,7,4,5,6,8,10],[10,12,9,3,0,1,2,7,4,5,6,8,11]] ?_
    refine dB [([112,115,116,117,118],[],[]),([111,115,116,117,118],[false],[]),([115,116,117,118],[true,true],[]),([115,116,117,118],[true,true,true],[]),([111,112,113,114,116],[false,false,false,false],[]),([111,112,113,114,115],[false,false,false,false,false],[]),([111,112,113,114],[false,false,false,false,true,true],[]),([111,112,113,114],[false,false,false,false,true,true,true],[])] 5 8 ?_
    refine dC [] [true,true,true,true,true,true,true,true] [] [] ?_
    refine cd (rank_e hallL 0 ey_r0) ?_
    refine dB [([],[true,true,true,true,true,true,true,true,true],[]),([121],[true,true,true,true,true,true,true,true,true,true],[]),([120,13],[true,true,true,true,true,true,true,true,true,true,false],[]),([121],[true,true,true,true,true,true,true,true,true,true,true,false],[])] 0 13 ?_
    refine dD ?_
    refine oN 1 ?_
    refine oK [6,9,10,11,12,13,14] ?_
    refine W.seqR ?_
    refine oN 3 ?_
    refine gT ?_
    refine gT ?_
    refine gT ?_
    refine gT ?_
    refine gT ?_
    refine gC [] ?_
    refine ct (SameInts_ok [3,0,2] [3,0,2]) ?_
    refine gT ?_
    refine oN 1 ?_
    refine oK [6,9,10,11,12,132] ?_
    refine cF ?_
    refine W.skip ?_
    refine hK5 _ ?_
    clear hK5 K5
    refine rEw ?_
    refine ⟨1,lf0,v0,v0⟩
   ·
    replace F:=F.add h0
    by_cases h1:i=1
    ·
     replace F:=F.add h1
     subst h1
     have h1:True:=trivial
     replace F:=F.add h1
     refine wD 13 [] [[],[],[1,0],[0,1,2],[],[],[5,4],[4,5,6],[6,5,4,7,2,1,0,3],[3,0,1,2,7,4,5,6,8],[8,6,5,4,7,2,1,0,3,9],[8,6,5,4,7,2,1,0,3,9],[9,3,0,1,2,7,4,5,6,8,10],[10,12,9,3,0,1,2,7,4,5,6,8,11]] ?_
     refine dB [([112,115,116,117,118],[],[]),([111,115,116,117,118],[false],[]),([115,116,117,118],[true,true],[]),([115,116,117,118],[true,true,true],[]),([111,112,113,114,116],[false,false,false,false],[]),([111,112,113,114,115],[false,false,false,false,false],[]),([111,112,113,114],[false,false,false,false,true,true],[]),([111,112,113,114],[false,false,false,false,true,true,true],[])] 5 8 ?_
     refine dC [] [true,true,true,true,true,true,true,true] [] [] ?_
     refine cd (rank_e hallL 1 ey_r1) ?_
     refine dB [([],[true,true,true,true,true,true,true,true,true],[]),([121],[true,true,true,true,true,true,true,true,true,true],[]),([120,13],[true,true,true,true,true,true,true,true,true,true,false],[]),([121],[true,true,true,true,true,true,true,true,true,true,true,false],[])] 0 13 ?_
     refine dD ?_
     refine oN 1 ?_
     refine oK [6,9,10,11,12,13,14] ?_
     refine W.seqR ?_
     refine oN 3 ?_
     refine gT ?_
     refine gT ?_
     refine gT ?_
     refine gT ?_
     refine gT ?_
     refine gC [] ?_
     refine ct (SameInts_ok [1,3,0] [1,3,0]) ?_
     refine gT ?_
     refine oN 1 ?_
     refine oK [6,9,10,11,12,132] ?_
     refine cF ?_
     refine W.skip ?_
     refine hK5 _ ?_
     clear hK5 K5
     refine rEw ?_
     refine ⟨2,lf0,v0,v0⟩
    ·
     replace F:=F.add h1
     by_cases h2:i=2
     ·
      replace F:=F.add h2
      subst h2
      have h2:True:=trivial
      replace F:=F.add h2
      refine wD 13 [] [[],[],[1,0],[0,1,2],[],[],[5,4],[4,5,6],[6,5,4,7,2,1,0,3],[3,0,1,2,7,4,5,6,8],[8,6,5,4,7,2,1,0,3,9],[8,6,5,4,7,2,1,0,3,9],[9,3,0,1,2,7,4,5,6,8,10],[10,12,9,3,0,1,2,7,4,5,6,8,11]] ?_
      refine dB [([112,115,116,117,118],[],[]),([111,115,116,117,118],[false],[]),([115,116,117,118],[true,true],[]),([115,116,117,118],[true,true,true],[]),([111,112,113,114,116],[false,false,false,false],[]),([111,112,113,114,115],[false,false,false,false,false],[]),([111,112,113,114],[false,false,false,false,true,true],[]),([111,112,113,114],[false,false,false,false,true,true,true],[])] 5 8 ?_
      refine dC [] [true,true,true,true,true,true,true,true] [] [] ?_
      refine cd (rank_e hallL 2 ey_r2) ?_
      refine dB [([],[true,true,true,true,true,true,true,true,true],[]),([121],[true,true,true,true,true,true,true,true,true,true],[]),([120,13],[true,true,true,true,true,true,true,true,true,true,false],[]),([121],[true,true,true,true,true,true,true,true,true,true,true,false],[])] 0 13 ?_
      refine dD ?_
      refine oN 1 ?_
      refine oK [6,9,10,11,12,13,14] ?_
      refine W.seqR ?_
      refine oN 3 ?_
      refine gT ?_
      refine gT ?_
      refine gT ?_
      refine gT ?_
      refine gT ?_
      refine gC [] ?_
      refine ct (SameInts_ok [2,1,3] [2,1,3]) ?_
      refine gT ?_
      refine oN 1 ?_
      refine oK [6,9,10,11,12,132] ?_
      refine cF ?_
      refine W.skip ?_
      refine hK5 _ ?_
      clear hK5 K5
      refine rEw ?_
      refine ⟨3,lf0,v0,v0⟩
     ·
      replace F:=F.add h2
      have h3:i=3:=by omega
      subst h3
      have h3:True:=trivial
      replace F:=F.add h3 |>.add h3
      refine wD 13 [] [[],[],[1,0],[0,1,2],[],[],[5,4],[4,5,6],[6,5,4,7,2,1,0,3],[3,0,1,2,7,4,5,6,8],[8,6,5,4,7,2,1,0,3,9],[8,6,5,4,7,2,1,0,3,9],[9,3,0,1,2,7,4,5,6,8,10],[10,12,9,3,0,1,2,7,4,5,6,8,11]] ?_
      refine dB [([112,115,116,117,118],[],[]),([111,115,116,117,118],[false],[]),([115,116,117,118],[true,true],[]),([115,116,117,118],[true,true,true],[]),([111,112,113,114,116],[false,false,false,false],[]),([111,112,113,114,115],[false,false,false,false,false],[]),([111,112,113,114],[false,false,false,false,true,true],[]),([111,112,113,114],[false,false,false,false,true,true,true],[])] 5 8 ?_
      refine dC [] [true,true,true,true,true,true,true,true] [] [] ?_
      refine cd (rank_e poorX 2 ey_r3) ?_
      refine dB [([],[true,true,true,true,true,true,true,true,true],[]),([121],[true,true,true,true,true,true,true,true,true,true],[]),([120,13],[true,true,true,true,true,true,true,true,true,true,false],[]),([121],[true,true,true,true,true,true,true,true,true,true,true,false],[])] 0 13 ?_
      refine dD ?_
      refine oN 1 ?_
      refine oK [6,9,10,11,12,13,14] ?_
      refine W.seqR ?_
      refine oN 3 ?_
      refine gT ?_
      refine gT ?_
      refine gT ?_
      refine gT ?_
      refine gT ?_
      refine gC [] ?_
      refine ct (SameInts_ok [1,3] [1,3]) ?_
      refine gT ?_
      refine oN 1 ?_
      refine oK [6,9,10,11,12,132] ?_
      refine cF ?_
      refine W.skip ?_
      refine hK5 _ ?_
      clear hK5 K5
      refine rEw ?_
      refine ⟨4,lf0,v0,v0⟩
  ·
   try simp at hc3
   replace F:=F.add hc3
   refine W.exit ?_
   refine hK3 _ ?_
   clear hK4 K4 hK3 K3
   refine W.seqR ?_
   refine oN 1 ?_
   refine oC [] ?_
   refine ct (let_e) ?_
   refine oN 5 ?_
   refine oK [8,15] ?_
   refine W.seqk fun K6 hK6=>?_
   refine W.seqR ?_
   refine oN 3 ?_
   refine gT ?_
   refine gT ?_
   refine gC [] ?_
   refine ct (SameInts_ok [2,1, -1] [2,1, -1]) ?_
   refine gT ?_
   refine oN 2 ?_
   refine gC [] ?_
   refine ct (hall_ok) ?_
   refine gT ?_
   refine gC [] ?_
   refine ct (hold_e [3,1,2] ey_h.1) ?_
   refine gT ?_
   refine oN 2 ?_
   refine gC [] ?_
   refine ct (hall_ok) ?_
   refine gT ?_
   refine gC [] ?_
   refine ct (hold_e [3,3,2] ey_h.2.1) ?_
   refine gT ?_
   refine oN 2 ?_
   refine gC [] ?_
   refine ct (hall_ok) ?_
   refine gT ?_
   refine gC [] ?_
   refine ct (hold_e [1,1,2] ey_h.2.2.1) ?_
   refine gT ?_
   refine oN 2 ?_
   refine gC [] ?_
   refine ct (hall_ok) ?_
   refine gT ?_
   refine gC [] ?_
   refine ct (hold_e [3,1] ey_h.2.2.2.1) ?_
   refine gT ?_
   refine oN 1 ?_
   refine oK [169] ?_
   refine cF ?_
   refine W.skip ?_
   refine hK6 _ ?_
   clear hK6 K6
   refine W.seqR ?_
   refine oC [] ?_
   refine ct (hall_ok) ?_
   refine oN 1 ?_
   refine fz 1376 ?_
   refine oC [] ?_
   refine ct (env_e [3,1,2] ey_h.1 ey_e.1) ?_
   refine oN 5 ?_
   refine oK [8,16] ?_
   refine W.seqR ?_
   refine oC [] ?_
   refine ct (hall_ok) ?_
   refine oN 1 ?_
   refine fz 1424 ?_
   refine oC [] ?_
   refine ct (env_e [2,1,3] ey_h.2.2.2.2.1 ey_e.2) ?_
   refine oN 5 ?_
   refine oK [8,16,17,18] ?_
   refine W.seqR ?_
   refine oC [] ?_
   refine ct (hall_ok) ?_
   refine oN 1 ?_
   refine fz 1472 ?_
   refine oC [] ?_
   refine ct (rent_e [3,1,2] ey_h.1 ey_rent.1) ?_
   refine oN 5 ?_
   refine oK [8,16,17,18,19,20] ?_
   refine W.seqR ?_
   refine oC [] ?_
   refine ct (hall_ok) ?_
   refine oN 1 ?_
   refine fz 1520 ?_
   refine oC [] ?_
   refine ct (rent_e [3,1, -1] ey_h.2.2.2.2.2 ey_rent.2) ?_
   refine oN 5 ?_
   refine oK [8,16,17,18,19,20,21,22] ?_
   refine W.seqR ?_
   refine oC [] ?_
   refine ct (hall_ok) ?_
   refine oC [(10900,10900)] ?_
   refine ct (write_e ob) ?_
   refine oN 5 ?_
   refine oK [8,16,17,18,19,20,21,22,23,24] ?_
   refine W.seqR ?_
   refine oN 3 ?_
   refine gT ?_
   refine gT ?_
   refine oN 2 ?_
   refine gT ?_
   refine gT ?_
   refine oN 2 ?_
   refine gT ?_
   refine gT ?_
   refine oN 2 ?_
   refine gT ?_
   refine gT ?_
   refine oN 2 ?_
   refine gT ?_
   refine gT ?_
   refine gT ?_
   refine oN 2 ?_
   refine gT ?_
   refine gT ?_
   refine gT ?_
   refine gC [] ?_
   refine ct (SameEnvies_ok [(0,0)] [(0,0)]) ?_
   refine oN 2 ?_
   refine gT ?_
   refine gT ?_
   refine gC [] ?_
   refine ct (SameInts_ok [100,200,300] [100,200,300]) ?_
   refine oN 2 ?_
   refine gT ?_
   refine gT ?_
   refine gC [] ?_
   refine ct (SameInts_ok [100,200,0] [100,200,0]) ?_
   refine oN 2 ?_
   refine gT ?_
   refine gT ?_
   refine oN 2 ?_
   refine oK [0] ?_
   refine W.ret ?_
   refine er false [] [(10900,10900)] ?_
   exact ⟨congrArg (fun b=>AV.val (Value.bool b)) (by decide +kernel),rfl⟩
end Go.Sim
