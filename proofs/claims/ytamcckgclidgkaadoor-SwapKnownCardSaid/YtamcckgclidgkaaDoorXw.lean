/- The chapter's examples: the law answers true. -/
import Derived.Test.YtamcckgclidgkaaDoorXv
namespace Go.Sim
open Go.Proofs W6
set_option maxRecDepth 100000
set_option linter.unusedSimpArgs false
set_option linter.unusedVariables false
attribute [-simp] List.map_set List.map_take List.map_drop
theorem cellRd_nil {d : Bool} {w : World} {e : Env} : CellRd d w e (.imm []) (.slice none 0 0) := by
  cases d
  · exact .data (.imm0 none 0)
  · exact .imm0 none 0
/-- nil in a variable's cell, seen as an empty slice -/
def St.immNilD (st : St) (id k j : Nat) : Option St :=
  match look id st.objs with
  | some (.row d t s els) => match els[k]? with
    | some y => match y.cells[j]? with
      | some (.val (.slice none 0 0)) => match y.setCells j [.imm []] with
        | some z => some { st with objs := upd id (.row d t s (els.set k z)) st.objs }
        | none => none
      | _ => none
    | none => none
  | _ => none
attribute [simp] St.immNilD
theorem Le.immNilD {st s2 : St} {id k j : Nat} (h : st.immNilD id k j = some s2) : Le st s2 := by
  intro a w e hc
  unfold St.immNilD at h
  split at h
  · rename_i d t s els ho
    split at h
    · rename_i y hy
      split at h
      · rename_i hcell
        split at h
        · rename_i z hz
          cases h
          have hdom := hc.sim.dom id
          rw [ho] at hdom
          obtain ⟨m, hm⟩ := Option.isSome_iff_exists.1 (hdom.trans rfl)
          have hk := hc.sim.obj id _ m ho hm
          obtain ⟨hle, hzc⟩ := AV.setCells_cells hz
          refine ⟨_, hc.write id _ m hm (Fr.refl _ _) (fun _ _ _ _ _ _ => rfl) ⟨hk.hsz, by simpa using hk.len, hk.cap, fun x hx => ?_, hk.only, ?_⟩, Fr.refl _ _⟩
          · rcases List.mem_or_eq_of_mem_set hx with hx | rfl
            · exact hk.cells x hx
            · rw [hzc, ← hk.cells y (List.mem_of_getElem? hy)]
              simp only [setSeg, List.length_append, List.length_take, List.length_drop, List.length_singleton] at hle ⊢
              omega
          · have hkb := hk.blk
            cases hmb : m.blk with
            | none => simpa [hmb] using hkb
            | some b =>
              simp only [hmb] at hkb ⊢
              obtain ⟨cur, h1, h2, h3⟩ := hkb
              refine ⟨cur, h1, h2, fun i x hx jj q hq => ?_⟩
              rw [List.getElem?_set] at hx
              by_cases hki : k = i
              · subst hki
                rw [if_pos rfl] at hx
                split at hx
                · cases hx
                  rw [hzc] at hq
                  by_cases hjj : jj = j
                  · subst hjj
                    have hjlt : jj < y.cells.length := (List.getElem?_eq_some_iff.1 hcell).1
                    simp only [setSeg, List.getElem?_append, List.length_take, List.length_singleton] at hq
                    rw [if_neg (by omega)] at hq
                    have : jj - min jj y.cells.length = 0 := by omega
                    rw [this] at hq
                    simp only [List.length_singleton, Nat.lt_one_iff, if_true, List.getElem?_cons_zero, Option.some.injEq] at hq
                    subst hq
                    obtain ⟨v, g1, g2, g3⟩ := h3 k y hy jj _ hcell
                    have hv := g3.rd.val_inv
                    subst hv
                    exact ⟨_, g1, g2, cellRd_nil⟩
                  · refine h3 k y hy jj q ?_
                    simp only [setSeg, List.getElem?_append, List.length_take, List.length_singleton] at hq
                    by_cases hlt : jj < j
                    · have hjlt : j < y.cells.length := (List.getElem?_eq_some_iff.1 hcell).1
                      rw [if_pos (by omega), List.getElem?_take, if_pos hlt] at hq
                      exact hq
                    · have hjlt : j < y.cells.length := (List.getElem?_eq_some_iff.1 hcell).1
                      rw [if_neg (by omega), if_neg (by omega), List.getElem?_drop] at hq
                      rw [← hq]; congr 1; omega
                · cases hx
              · rw [if_neg hki] at hx
                exact h3 i x hx jj q hq
        · cases h
      · cases h
    · cases h
  · cases h
section
variable {P : Program} {Γ : TypeId → Option TI}
/-- a slice's literal in a drawn region's head, which is data at once -/
theorem WDraw.bldI (hΓ : TOk P Γ) {ops rest : List Oper} {deps : List (List Nat)} {eff : List (Nat × List Nat)} {s0 v : St} {K : St → Prop} {n k : Nat} {ents ents' : List REnt} {o : Oper} {r r' : AV} {new new' : List (Nat × Obj)} (hv : viewSt ops deps eff s0 k ents = v) (hw : wantedA ops o v = some true) (he : evalN Γ o v = some (r, new)) (hi : imD r new = some (r', new'))
    (hf : (new.all fun x => (look x.1 v.objs).isNone) = true) (hn : outIn [] o v new' = true) (hs : ents ++ [⟨o.dst, r', new'⟩] = ents') (h : WDraw P ops deps eff s0 K n rest (k + 1) ents') : WDraw P ops deps eff s0 K (n + 1) (o :: rest) k ents := by
  subst hv; subst hs
  refine ⟨true, hw, ?_⟩
  simp only [if_true]
  exact ⟨_, _, (QStep.ofN hΓ he (fun x hx => by simpa using List.all_eq_true.1 hf x hx)).imD hi, outIn_all (.inl rfl) hn, h⟩
end
section
variable {P : Program} {Γ : TypeId → Option TI} {ops rest : List Oper} {deps : List (List Nat)} {eff : List (Nat × List Nat)} {s0 v : St} {K : St → Prop} {n k : Nat} {ents ents' : List REnt} {o : Oper}
theorem WGt.frz {st st' : St} (hl : Le st st') (hw' : wantedA ops o st' = some true) (hd : dstOk o st = true) (h : WGt P ops K o rest st') : WGt P ops K o rest st := fun hw => by
  obtain ⟨_, t, h1, h2⟩ := h hw'
  rw [hw'] at h1
  cases h1
  simp only [if_true] at h2
  refine ⟨hd, true, hw, ?_⟩
  simp only [if_true]
  intro rd a w e hc next Q hn
  obtain ⟨e2, c2, f2⟩ := hl a w e hc
  exact h2 rd a w e2 c2 next Q fun r s v w' e' hK h3 h4 h5 => hn r s v w' e' hK h3 (f2.trans h4) h5
end
set_option maxHeartbeats 4000000 in
theorem on_imm (d : Int) (l : List Int) (hll : l.length ≤ 1000000) : ACalls Tryd.prog 5 [I d, ints l] [] (fun r o => r = turns (l.map fun s => (s, d)) ∧ o = []) := by
 have F := Fx.nil
 refine ent Tryd.func5 Tryd.ntmps5 Tryd.results5 ?_
 refine rK [0, 1] ?_
 refine rK [0, 1, 5] ?_
 refine W.seqk fun K1 hK1 => ?_
 refine rK [0, 1, 5, 6] ?_
 refine W.block ?_
 refine sn 5 9000 28 2 ?_
 refine lpa (α := Nat) [0, 1] [9, 20, 21] [9000] (fun i => [(6, I i), (5, .own 9000 0 i)]) (fun i => [(9000, .row true 28 2 (((l.take i).map fun s => (s, d)).map T))]) (fun i => i ≤ l.length) (fun i => l.length - i) 0 v0 ?_
 ·
  intro i hI0
  simp only [List.cons_append, List.nil_append]
  try dsimp only at hI0
  replace F := F.add hI0
  refine W.seqk fun K2 hK2 => ?_
  refine rK [0, 1, 5, 6, 10] ?_
  refine it (fun hc1 => ?_) (fun hc1 => ?_)
  ·
   try simp at hc1
   replace F := F.add hc1
   refine W.skip ?_
   refine hK2 _ ?_
   clear hK2 K2
   refine W.seqk fun K3 hK3 => ?_
   refine W.block ?_
   refine rEw ?_
   refine hK3 _ ?_
   clear hK3 K3
   refine rEw ?_
   refine ⟨i + 1, lf ?_ ?_, v0, v0⟩
   ·
    exact v1
   ·
    try (simp [Fx.get F])
    all_goals (
     rw [List.take_succ_eq_append_getElem hc1, List.map_append]; rfl
    )
  ·
   try simp at hc1
   replace F := F.add hc1
   refine W.exit ?_
   refine hK1 _ ?_
   clear hK2 K2 hK1 K1
   refine rK [4] ?_
   refine W.ret ?_
   refine er false [9000] [] ?_
   rw [show i = l.length from by omega, List.take_of_length_le (by simp)]; exact ⟨by simp [Function.comp_def], rfl⟩
set_option maxHeartbeats 4000000 in
theorem row_ownO  : ACalls Tryd.prog 4 [] [] (fun r o => r = .agg [.own 20000 0 4, tlists rowLk] ∧ o = [(20000, .row true 28 2 (rowOw.map T))]) := by
 have F := Fx.nil
 refine ent Tryd.func4 Tryd.ntmps4 Tryd.results4 ?_
 refine rK [0] ?_
 refine W.seqR ?_
 refine oN 1 ?_
 refine oC [] ?_
 refine ct (on_own 0 [0, 1, 2, 3] (by simp)) ?_
 refine oN 1 ?_
 refine oC [] ?_
 refine ct (on_own 0 [1, 2] (by simp)) ?_
 refine oN 1 ?_
 refine oC [] ?_
 refine ct (on_own 0 [0] (by simp)) ?_
 refine oN 1 ?_
 refine oC [] ?_
 refine ct (on_own 0 [0, 1] (by simp)) ?_
 refine oN 1 ?_
 refine oC [] ?_
 refine ct (on_own 0 [2, 3, 0] (by simp)) ?_
 refine oN 3 ?_
 refine oK [0] ?_
 refine W.ret ?_
 refine er false [88] [(20000, 16)] ?_
 exact ⟨rfl, rfl⟩
set_option maxHeartbeats 4000000 in
theorem row_ownL  : ACalls Tryd.prog 4 [] [] (fun r o => r = .agg [turns rowOw, .own 20000 0 4] ∧ o = [(20000, .row true 22 1 (rowLk.map turns))]) := by
 have F := Fx.nil
 refine ent Tryd.func4 Tryd.ntmps4 Tryd.results4 ?_
 refine rK [0] ?_
 refine W.seqR ?_
 refine oN 1 ?_
 refine oC [] ?_
 refine ct (on_own 0 [0, 1, 2, 3] (by simp)) ?_
 refine oN 1 ?_
 refine oC [] ?_
 refine ct (on_own 0 [1, 2] (by simp)) ?_
 refine oN 1 ?_
 refine oC [] ?_
 refine ct (on_own 0 [0] (by simp)) ?_
 refine oN 1 ?_
 refine oC [] ?_
 refine ct (on_own 0 [0, 1] (by simp)) ?_
 refine oN 1 ?_
 refine oC [] ?_
 refine ct (on_own 0 [2, 3, 0] (by simp)) ?_
 refine oN 3 ?_
 refine oK [0] ?_
 refine W.ret ?_
 refine er false [16] [(20000, 88)] ?_
 exact ⟨rfl, rfl⟩
set_option maxHeartbeats 4000000 in
theorem hall_ok  : ACalls Tryd.prog 13 [] [] (fun r o => r = letV hallL ∧ o = []) := by
 have F := Fx.nil
 refine ent Tryd.func13 Tryd.ntmps13 Tryd.results13 ?_
 refine rK [0] ?_
 refine W.seqR ?_
 refine oN 16 ?_
 refine fz 40 ?_
 refine fz 48 ?_
 refine fz 64 ?_
 refine fz 72 ?_
 refine fz 88 ?_
 refine fz 96 ?_
 refine fz 112 ?_
 refine fz 120 ?_
 refine oN 3 ?_
 refine oK [0] ?_
 refine W.ret ?_
 refine er false [32, 136] [] ?_
 exact ⟨rfl, rfl⟩
theorem chk_row : ACalls Tryd.prog 7 [trade rowOw rowLk] [] (fun r o => r = I 0 ∧ o = []) := by
  have h := W6.Check_ok rowOw rowLk
  rw [row_check] at h; exact h
theorem chk_twice : ACalls Tryd.prog 7 [.agg [.imm [T (0, 0), T (0, 0), T (2, 0), T (3, 0)], tlists rowLk]] [] (fun r o => r = I 4 ∧ o = []) := by
  have h := W6.Check_ok twiceO rowLk
  rw [ey_twice] at h; exact h
theorem chk_late : ACalls Tryd.prog 7 [.agg [.imm [T (0, 0), T (1, 0), T (2, 0), T (3, 7)], tlists rowLk]] [] (fun r o => r = I 1 ∧ o = []) := by
  have h := W6.Check_ok lateO rowLk
  rw [ey_late] at h; exact h
theorem chk_again : ACalls Tryd.prog 7 [.agg [turns rowOw, .imm [turns [(1, 0), (2, 0)], turns [(0, 0)], turns [(0, 0), (1, 0)], turns [(2, 0), (2, 0)]]]] [] (fun r o => r = I 4 ∧ o = []) := by
  have h := W6.Check_ok rowOw againL
  rw [ey_again] at h; exact h
theorem wf5 {l : List W6.Turn} (h : l.all (fun x => decide (-100 ≤ x.1 ∧ x.1 ≤ 100) && decide (-100 ≤ x.2 ∧ x.2 ≤ 100)) = true) : ∀ x ∈ l, WfT x := fun x hx => by
  have := List.all_eq_true.1 h x hx
  simp only [Bool.and_eq_true, decide_eq_true_eq] at this
  exact wfT_of this.1 this.2
theorem blk_ex {h : List W6.Turn} {b : List Int} (h1 : (blocksT rowOw rowLk h).map (fun n : Nat => (n : Int)) = b) (h2 : heldT rowOw rowLk h = 0) (h3 : h.all (fun x => decide (-100 ≤ x.1 ∧ x.1 ≤ 100) && decide (-100 ≤ x.2 ∧ x.2 ≤ 100)) = true) :
    ACalls Tryd.prog 8 [trade rowOw rowLk, turns h] [] (fun r o => r = .tup [ints b, I 0] ∧ o = []) := by
  have k := W6.Blocks_ok rowOw rowLk h (fun _ => wf5 h3)
  have e : rgV (blocksT rowOw rowLk h) = ints b := by rw [← h1, rgV, ints, List.map_map]; rfl
  rw [e, h2] at k; exact k
theorem ple_ex {h : List W6.Turn} (h1 : pleaseT rowOw rowLk h = []) (h2 : heldT rowOw rowLk h = 0) (h3 : h.all (fun x => decide (-100 ≤ x.1 ∧ x.1 ≤ 100) && decide (-100 ≤ x.2 ∧ x.2 ≤ 100)) = true) :
    ACalls Tryd.prog 10 [trade rowOw rowLk, turns h] [] (fun r o => r = .tup [.imm [], I 0] ∧ o = []) := by
  have k := W6.Pleases_ok rowOw rowLk h (fun _ => wf5 h3)
  rw [h1, h2] at k; exact k
theorem held_ex {h : List W6.Turn} {e : Int} (h2 : heldT rowOw rowLk h = e) (h3 : h.all (fun x => decide (-100 ≤ x.1 ∧ x.1 ≤ 100) && decide (-100 ≤ x.2 ∧ x.2 ≤ 100)) = true) :
    ACalls Tryd.prog 11 [trade rowOw rowLk, turns h] [] (fun r o => r = I e ∧ o = []) := by
  have k := W6.CheckHeld_ok rowOw rowLk h (fun _ => wf5 h3)
  rw [h2] at k; exact k
theorem from_ex : ACalls Tryd.prog 12 [letV hallL, ints [3, 1, 2], I 4] [] (fun r o => r = .tup [W6.trade [(1, 4), (2, 4), (0, 4)] [[(1, 4), (2, 4)], [(0, 4), (2, 4)], [(2, 4), (1, 4), (0, 4)]], ints [1, 2, 3], I 0] ∧ o = []) := by
  have k := From_fine hallL hall_valid [3, 1, 2] ey_hok 4 (by omega)
  rw [frV, ey_from] at k; exact k
theorem swap_ex : ACalls Tryd.prog 14 [W6.trade [(1, 4), (2, 4), (0, 4)] [[(1, 4), (2, 4)], [(0, 4), (2, 4)], [(2, 4), (1, 4), (0, 4)]]] [] (fun r o => r = .tup [turns [(1, 4), (0, 4), (2, 4)], I 0] ∧ o = []) := by
  have k := W6.Swap_ok [(1, 4), (2, 4), (0, 4)] [[(1, 4), (2, 4)], [(0, 4), (2, 4)], [(2, 4), (1, 4), (0, 4)]]
  rw [ey_swap.1, ey_swap.2] at k; exact k
theorem write_ex (ob : Go.Obj) : ACalls Tryd.prog 15 [trade rowOw rowLk] [(10900, tabO ob)] (fun r o => r = .tup [.val (.string ⟨paperC.toArray⟩), I 0] ∧ o = [(10900, tabO ob)]) := by
  have k := Write_ok ob rowOw rowLk
  rw [ey_wrT, row_check] at k; exact k
set_option maxHeartbeats 4000000 in
theorem SwapKnown_ok (ob : Go.Obj) : ACalls Tryd.prog 3 [] [(10900, tabO ob)] (fun r o => r = B true ∧ o = [(10900, tabO ob)]) := by
 have F := Fx.nil
 refine ent Tryd.func3 Tryd.ntmps3 Tryd.results3 ?_
 refine rK [] ?_
 refine W.seqR ?_
 refine oC [] ?_
 refine ct (row_ownO) ?_
 refine oC [] ?_
 refine ct (row_ownO) ?_
 refine oC [] ?_
 refine ct (row_ownL) ?_
 refine oN 6 ?_
 refine oK [1, 2, 3] ?_
 refine wD 17 [(13, [152]), (16, [160])] [[], [0], [], [2], [], [4], [], [6], [6, 7], [7, 6, 8], [], [10], [10, 11, 9, 8, 7, 6, 0, 1], [1, 0, 6, 7, 8, 9, 11, 10, 12], [13, 12, 10, 11, 9, 8, 7, 6, 1, 0, 2, 3], [3, 2, 0, 1, 6, 7, 8, 9, 11, 10, 12, 13, 14], [14, 13, 12, 10, 11, 9, 8, 7, 6, 1, 0, 2, 3, 15], [16, 15, 14, 13, 12, 11, 10, 9, 8, 7, 6, 3, 2, 1, 0, 4, 5], [5, 4, 0, 1, 2, 3, 6, 7, 8, 9, 10, 11, 12, 13, 14, 15, 16, 17]] ?_
 refine dB [([24, 25, 26, 27, 28, 29, 30, 31, 32, 33], [], []), ([24, 25, 26, 27, 28, 29, 30, 31, 32, 33], [true], []), ([22, 23, 26, 27, 28, 29, 30, 31, 32, 33, 34], [false, false], [152]), ([22, 23, 26, 27, 28, 29, 30, 31, 32, 33, 34], [false, false, true], [152]), ([22, 23, 24, 25, 28, 29, 30, 31, 32, 33, 34, 35, 36], [false, false, false, false], [152, 160]), ([22, 23, 24, 25, 28, 29, 30, 31, 32, 33, 34, 35, 36], [false, false, false, false, true], [152, 160]), ([22, 23, 24, 25, 26, 27, 32, 33], [false, false, false, false, false, false], []), ([22, 23, 24, 25, 26, 27, 32, 33], [false, false, false, false, false, false, true], []), ([22, 23, 24, 25, 26, 27, 32, 33], [false, false, false, false, false, false, true, true], []), ([22, 23, 24, 25, 26, 27, 32, 33], [false, false, false, false, false, false, true, true, true], [])] 7 10 ?_
 refine WDraw.bldI hΓ (viewB_eq (L := [22, 23, 24, 25, 26, 27, 28, 29, 30, 31]) (S := [false, false, false, false, false, false, false, false, false, false]) (O := []) (by kernel_rfl) (by kernel_rfl) (by simp; rfl)) (by first | rfl | simp) (by simp; first | rfl | exact ⟨rfl, rfl⟩) (by simp [imD]; first | rfl | exact ⟨rfl, rfl⟩) (by first | rfl | simp) (by simp; first | done | rfl) (by simp; rfl) ?_
 refine dC [22, 23, 24, 25, 26, 27, 28, 29, 30, 31] [false, false, false, false, false, false, false, false, false, false, true] [] [] ?_
 refine cd (on_imm 0 [2, 2] (by simp)) ?_
 refine dB [([24, 25, 26, 27], [true, true, false, false, false, false, true, true, true, true, true, true], [])] 4 13 ?_
 refine WDraw.upd hΓ [152] (viewB_eq (L := [24, 25, 26, 27]) (S := [true, true, false, false, false, false, true, true, true, true, true, true, true]) (O := []) (by kernel_rfl) (by kernel_rfl) (by simp; rfl)) (by first | rfl | simp) (by simp; first | rfl | exact ⟨rfl, rfl⟩) (by simp; first | done | rfl) (.inr (by simp)) (by simp; rfl) ?_
 refine dB [([26, 27], [true, true, true, true, false, false, true, true, true, true, true, true, true, true], []), ([26, 27], [true, true, true, true, false, false, true, true, true, true, true, true, true, true, true], [])] 1 16 ?_
 refine WDraw.upd hΓ [160] (viewB_eq (L := [26, 27]) (S := [true, true, true, true, false, false, true, true, true, true, true, true, true, true, true, true]) (O := []) (by kernel_rfl) (by kernel_rfl) (by simp; rfl)) (by first | rfl | simp) (by simp; first | rfl | exact ⟨rfl, rfl⟩) (by simp; first | done | rfl) (.inr (by simp)) (by simp; rfl) ?_
 refine dD ?_
 refine WOps.le Le.dedup rfl rfl ?_
 refine WOps.norm (by simp; rfl) ?_
 refine oN 2 ?_
 refine oK [1, 2, 3] ?_
 refine W.seqk fun K1 hK1 => ?_
 refine W.seqR ?_
 refine oC [] ?_
 refine ct (W6.awake_ok) ?_
 refine oN 2 ?_
 refine gC [] ?_
 refine ct (W6.row_ok) ?_
 refine gC [] ?_
 refine ct (chk_row) ?_
 refine gT ?_
 refine oN 2 ?_
 refine gT ?_
 refine gC [] ?_
 refine ct (chk_twice) ?_
 refine gT ?_
 refine oN 2 ?_
 refine gT ?_
 refine gC [] ?_
 refine ct (chk_late) ?_
 refine gT ?_
 refine oN 2 ?_
 refine gT ?_
 refine gC [] ?_
 refine ct (chk_again) ?_
 refine gT ?_
 refine oN 1 ?_
 refine oK [59] ?_
 refine cF ?_
 refine W.skip ?_
 refine hK1 _ ?_
 clear hK1 K1
 refine W.seqR ?_
 refine oN 1 ?_
 refine fz 480 ?_
 refine oC [] ?_
 refine ct (on_imm 0 [1, 0, 2, 3] (by simp)) ?_
 refine oN 1 ?_
 refine fz 496 ?_
 refine oC [] ?_
 refine ct (on_imm 0 [0, 1, 2, 3] (by simp)) ?_
 refine oN 1 ?_
 refine fz 512 ?_
 refine oC [] ?_
 refine ct (on_imm 0 [2, 1, 0, 3] (by simp)) ?_
 refine oN 1 ?_
 refine fz 528 ?_
 refine oC [] ?_
 refine ct (on_imm 0 [1, 2, 0, 3] (by simp)) ?_
 refine oN 7 ?_
 refine oK [4, 5] ?_
 refine W.seqk fun K2 hK2 => ?_
 refine W.weaken (Le.immNilD (id := 576) (k := 0) (j := 0) (by simp; rfl)) ?_
 obtain ⟨HS, qHS⟩ : ∃ L : List (List W6.Turn), L = [heldA, heldB, heldC, heldD] := ⟨_, rfl⟩
 obtain ⟨BS, qBS⟩ : ∃ L : List (List Int), L = [[], [0, 1], [0, 1], [1]] := ⟨_, rfl⟩
 have hHS : [turns [(1, 0), (0, 0), (2, 0), (3, 0)], turns [(0, 0), (1, 0), (2, 0), (3, 0)], turns [(2, 0), (1, 0), (0, 0), (3, 0)], turns [(1, 0), (2, 0), (0, 0), (3, 0)]] = HS.map turns := by rw [qHS]; rfl
 have hBS : [.imm [], .imm [I 0, I 1], .imm [I 0, I 1], .imm [I 1]] = BS.map ints := by rw [qBS]; rfl
 have hHSl : HS.length = 4 := by rw [qHS]; rfl
 have hBSl : BS.length = 4 := by rw [qBS]; rfl
 have hH0 : HS[0]'(by omega) = heldA := by subst qHS; rfl
 have hH2 : HS[2]'(by omega) = heldC := by subst qHS; rfl
 replace F := F.add hHS |>.add hBS |>.add hHSl |>.add hBSl |>.add hH0 |>.add hH2
 refine W.weaken (Le.freeze (id := 544) (by simp [hHS, hBS, hHSl, hBSl, hH0, hH2]; rfl)) ?_
 refine W.weaken (Le.freeze (id := 576) (by simp [hHS, hBS, hHSl, hBSl, hH0, hH2]; rfl)) ?_
 refine rK [4, 5, 6] ?_
 refine W.block ?_
 refine lpa (α := Nat) [4, 5] [75, 80, 85, 96] [] (fun i => [(6, I i)]) (fun i => []) (fun i => i ≤ 4) (fun i => 4 - i) 0 v0 ?_
 ·
  intro i hI0
  simp only [List.cons_append, List.nil_append]
  try dsimp only at hI0
  replace F := F.add hI0
  refine W.seqk fun K3 hK3 => ?_
  refine rK [4, 5, 6, 76] ?_
  refine it (fun hc2 => ?_) (fun hc2 => ?_)
  ·
   try simp at hc2
   replace F := F.add hc2
   refine W.skip ?_
   refine hK3 _ ?_
   clear hK3 K3
   refine W.seqk fun K4 hK4 => ?_
   refine W.block ?_
   have hi4 : i < 4 := by omega
   obtain ⟨l, ql⟩ : ∃ l, HS[i]'(by omega) = l := ⟨_, rfl⟩
   obtain ⟨v, qw⟩ : ∃ v, BS[i]'(by omega) = v := ⟨_, rfl⟩
   have hl0 := ql
   have hv0 := qw
   have qk : ((blocksT rowOw rowLk l).map (fun n : Nat => (n : Int)) = v ∧ heldT rowOw rowLk l = 0) ∧ l.all (fun x => decide (-100 ≤ x.1 ∧ x.1 ≤ 100) && decide (-100 ≤ x.2 ∧ x.2 ≤ 100)) = true := by
     subst qHS; subst qBS
     have g0 := ey_blk
     have g1 := ey_held
     have g3 : i = 0 ∨ i = 1 ∨ i = 2 ∨ i = 3 := by omega
     rcases g3 with rfl | rfl | rfl | rfl
     · rw [← show heldA = l from ql, ← show [] = v from qw]; exact ⟨⟨g0.1, g1.1⟩, by decide⟩
     · rw [← show heldB = l from ql, ← show [0, 1] = v from qw]; exact ⟨⟨g0.2.1, g1.2.1⟩, by decide⟩
     · rw [← show heldC = l from ql, ← show [0, 1] = v from qw]; exact ⟨⟨g0.2.2.1, g1.2.2.1⟩, by decide⟩
     · rw [← show heldD = l from ql, ← show [1] = v from qw]; exact ⟨⟨g0.2.2.2, g1.2.2.2⟩, by decide⟩
   replace F := F.add hi4 |>.add hl0 |>.add hv0
   refine wD 10 [] [[], [], [], [2, 1], [1, 2, 3], [3, 2, 1, 4, 0], [0, 4, 1, 2, 3, 5], [5, 3, 2, 1, 4, 0, 6], [5, 3, 2, 1, 4, 0, 6], [6, 0, 4, 1, 2, 3, 5, 7], [7, 9, 6, 0, 4, 1, 2, 3, 5, 8]] ?_
   refine dC [81, 82, 83, 84] [] [] [] ?_
   refine cd (W6.row_ok) ?_
   refine dB [([80, 82], [false], []), ([80, 81], [false, false], []), ([80], [false, true, true], []), ([80], [false, true, true, true], [])] 5 5 ?_
   refine dC [] [true, true, true, true, true] [] [] ?_
   refine cd (blk_ex qk.1.1 qk.1.2 qk.2) ?_
   refine dB [([], [true, true, true, true, true, true], []), ([87], [true, true, true, true, true, true, true], []), ([86, 7], [true, true, true, true, true, true, true, false], []), ([87], [true, true, true, true, true, true, true, true, false], [])] 0 10 ?_
   refine dD ?_
   refine oN 1 ?_
   refine oK [4, 5, 6, 7, 8] ?_
   refine W.seqR ?_
   refine oN 3 ?_
   refine gT ?_
   refine gT ?_
   refine gT ?_
   refine gT ?_
   refine gT ?_
   refine gC [] ?_
   refine ct (W6.SameInts_ok v v) ?_
   refine gT ?_
   refine oN 1 ?_
   refine oK [4, 5, 6, 98] ?_
   refine cF ?_
   refine W.skip ?_
   refine hK4 _ ?_
   clear hK4 K4
   refine rEw ?_
   refine ⟨i + 1, lf0, v0, v0⟩
  ·
   try simp at hc2
   replace F := F.add hc2
   refine W.exit ?_
   refine hK2 _ ?_
   clear hK3 K3 hK2 K2
   refine wD 9 [] [[], [], [1], [1, 2], [2, 1, 3, 0], [0, 3, 1, 2, 4], [4, 2, 1, 3, 0, 5], [4, 2, 1, 3, 0, 5], [5, 0, 3, 1, 2, 4, 6], [6, 8, 5, 0, 3, 1, 2, 4, 7]] ?_
   refine dC [101, 102, 103] [] [] [] ?_
   refine cd (W6.row_ok) ?_
   refine dB [([100], [false], []), ([100], [false, true], []), ([100], [false, true, true], [])] 5 4 ?_
   refine dC [] [true, true, true, true] [] [] ?_
   refine cd (ple_ex ey_ple.1 ey_held.1 (by decide)) ?_
   refine dB [([], [true, true, true, true, true], []), ([106], [true, true, true, true, true, true], []), ([105, 9], [true, true, true, true, true, true, false], []), ([106], [true, true, true, true, true, true, true, false], [])] 0 9 ?_
   refine dD ?_
   refine oN 1 ?_
   refine oK [4, 9, 10] ?_
   refine wD 9 [] [[], [], [1], [1, 2], [2, 1, 3, 0], [0, 3, 1, 2, 4], [4, 2, 1, 3, 0, 5], [4, 2, 1, 3, 0, 5], [5, 0, 3, 1, 2, 4, 6], [6, 8, 5, 0, 3, 1, 2, 4, 7]] ?_
   refine dC [109, 110, 111] [] [] [] ?_
   refine cd (W6.row_ok) ?_
   refine dB [([108], [false], []), ([108], [false, true], []), ([108], [false, true, true], [])] 5 4 ?_
   refine dC [] [true, true, true, true] [] [] ?_
   refine cd (ple_ex ey_ple.2 ey_held.2.2.1 (by decide)) ?_
   refine dB [([], [true, true, true, true, true], []), ([114], [true, true, true, true, true, true], []), ([113, 11], [true, true, true, true, true, true, false], []), ([114], [true, true, true, true, true, true, true, false], [])] 0 9 ?_
   refine dD ?_
   refine oN 1 ?_
   refine oK [4, 9, 10, 11, 12] ?_
   refine W.seqk fun K5 hK5 => ?_
   refine wD 39 [] [[], [0], [0, 1], [1, 0, 2], [2, 0, 1, 3], [3, 4, 1, 0, 2], [2, 0, 1, 4, 3, 5], [5, 3, 4, 1, 0, 2, 6], [6, 2, 0, 1, 4, 3, 5, 7], [5, 3, 4, 1, 0, 2, 6], [6, 2, 0, 1, 4, 3, 5, 9], [9, 10, 7, 5, 3, 4, 1, 0, 2, 6, 8], [8, 6, 2, 0, 1, 4, 3, 5, 7, 10, 9, 11], [11, 9, 10, 7, 8, 12, 5, 3, 4, 1, 0, 2, 6], [6, 2, 0, 1, 4, 3, 5, 12, 8, 7, 10, 9, 11, 13], [13, 11, 9, 10, 7, 8, 12, 5, 3, 4, 1, 0, 2, 6, 14], [13, 11, 9, 10, 7, 8, 12, 5, 3, 4, 1, 0, 2, 6, 14], [14, 6, 2, 0, 1, 4, 3, 5, 12, 8, 7, 10, 9, 11, 13, 16], [16, 13, 11, 9, 10, 7, 8, 12, 5, 3, 4, 1, 0, 2, 6, 14, 17], [17, 16, 18, 14, 6, 2, 0, 1, 4, 3, 5, 12, 8, 7, 10, 9, 11, 13, 15], [15, 13, 11, 9, 10, 7, 8, 12, 5, 3, 4, 1, 0, 2, 6, 14, 18, 16, 17, 19], [19, 17, 16, 18, 15, 20, 13, 11, 9, 10, 7, 8, 12, 5, 3, 4, 1, 0, 2, 6, 14], [14, 6, 2, 0, 1, 4, 3, 5, 12, 8, 7, 10, 9, 11, 13, 20, 15, 18, 16, 17, 19, 21], [21, 19, 17, 16, 18, 15, 20, 13, 11, 9, 10, 7, 8, 12, 5, 3, 4, 1, 0, 2, 6, 14, 22], [21, 19, 17, 16, 18, 15, 20, 13, 11, 9, 10, 7, 8, 12, 5, 3, 4, 1, 0, 2, 6, 14, 22], [23, 22, 14, 6, 2, 0, 1, 4, 3, 5, 12, 8, 7, 10, 9, 11, 13, 20, 15, 18, 16, 17, 19, 21, 24], [24, 25, 22, 14, 6, 2, 0, 1, 4, 3, 5, 12, 8, 7, 10, 9, 11, 13, 20, 15, 18, 16, 17, 19, 21, 23], [23, 21, 19, 17, 16, 18, 15, 20, 13, 11, 9, 10, 7, 8, 12, 5, 3, 4, 1, 0, 2, 6, 14, 22, 25, 24, 26], [26, 24, 25, 23, 27, 21, 19, 17, 16, 18, 15, 20, 13, 11, 9, 10, 7, 8, 12, 5, 3, 4, 1, 0, 2, 6, 14, 22], [22, 14, 6, 2, 0, 1, 4, 3, 5, 12, 8, 7, 10, 9, 11, 13, 20, 15, 18, 16, 17, 19, 21, 27, 23, 25, 24, 26, 28], [28, 26, 24, 25, 23, 27, 21, 19, 17, 16, 18, 15, 20, 13, 11, 9, 10, 7, 8, 12, 5, 3, 4, 1, 0, 2, 6, 14, 22, 29], [28, 26, 24, 25, 23, 27, 21, 19, 17, 16, 18, 15, 20, 13, 11, 9, 10, 7, 8, 12, 5, 3, 4, 1, 0, 2, 6, 14, 22, 29], [30, 29, 22, 14, 6, 2, 0, 1, 4, 3, 5, 12, 8, 7, 10, 9, 11, 13, 20, 15, 18, 16, 17, 19, 21, 27, 23, 25, 24, 26, 28, 31], [31, 32, 29, 22, 14, 6, 2, 0, 1, 4, 3, 5, 12, 8, 7, 10, 9, 11, 13, 20, 15, 18, 16, 17, 19, 21, 27, 23, 25, 24, 26, 28, 30], [30, 28, 26, 24, 25, 23, 27, 21, 19, 17, 16, 18, 15, 20, 13, 11, 9, 10, 7, 8, 12, 5, 3, 4, 1, 0, 2, 6, 14, 22, 29, 32, 31, 33], [33, 31, 32, 30, 34, 28, 26, 24, 25, 23, 27, 21, 19, 17, 16, 18, 15, 20, 13, 11, 9, 10, 7, 8, 12, 5, 3, 4, 1, 0, 2, 6, 14, 22, 29], [29, 22, 14, 6, 2, 0, 1, 4, 3, 5, 12, 8, 7, 10, 9, 11, 13, 20, 15, 18, 16, 17, 19, 21, 27, 23, 25, 24, 26, 28, 34, 30, 32, 31, 33, 35], [35, 33, 31, 32, 30, 34, 28, 26, 24, 25, 23, 27, 21, 19, 17, 16, 18, 15, 20, 13, 11, 9, 10, 7, 8, 12, 5, 3, 4, 1, 0, 2, 6, 14, 22, 29, 36], [35, 33, 31, 32, 30, 34, 28, 26, 24, 25, 23, 27, 21, 19, 17, 16, 18, 15, 20, 13, 11, 9, 10, 7, 8, 12, 5, 3, 4, 1, 0, 2, 6, 14, 22, 29, 36], [37, 36, 29, 22, 14, 6, 2, 0, 1, 4, 3, 5, 12, 8, 7, 10, 9, 11, 13, 20, 15, 18, 16, 17, 19, 21, 27, 23, 25, 24, 26, 28, 34, 30, 32, 31, 33, 35, 38], [38, 39, 36, 29, 22, 14, 6, 2, 0, 1, 4, 3, 5, 12, 8, 7, 10, 9, 11, 13, 20, 15, 18, 16, 17, 19, 21, 27, 23, 25, 24, 26, 28, 34, 30, 32, 31, 33, 35, 37], [37, 35, 33, 31, 32, 30, 34, 28, 26, 24, 25, 23, 27, 21, 19, 17, 16, 18, 15, 20, 13, 11, 9, 10, 7, 8, 12, 5, 3, 4, 1, 0, 2, 6, 14, 22, 29, 36, 39, 38, 40], [40, 38, 39, 37, 41, 35, 33, 31, 32, 30, 34, 28, 26, 24, 25, 23, 27, 21, 19, 17, 16, 18, 15, 20, 13, 11, 9, 10, 7, 8, 12, 5, 3, 4, 1, 0, 2, 6, 14, 22, 29, 36]] ?_
   refine dB [([], [], []), ([], [true], []), ([], [true, true], [])] 36 3 ?_
   refine dT [] [true, true, true] [] ?_
   refine dT [] [true, true, true, true] [] ?_
   refine dB [([], [true, true, true, true, true], []), ([], [true, true, true, true, true, true], [])] 32 7 ?_
   refine dT [124, 125] [true, true, true, true, true, true, true] [] ?_
   refine dT [124, 125] [true, true, true, true, true, true, true, true] [] ?_
   refine dT [122, 123] [true, true, true, true, true, true, true, false, false] [] ?_
   refine dT [122, 123] [true, true, true, true, true, true, true, false, false, true] [] ?_
   refine dTw [] [true, true, true, true, true, true, true, true, true, true, true] [] ?_
   refine dT [] [true, true, true, true, true, true, true, true, true, true, true, true] [] ?_
   refine dB [([], [true, true, true, true, true, true, true, true, true, true, true, true, true], []), ([], [true, true, true, true, true, true, true, true, true, true, true, true, true, true], [])] 24 15 ?_
   refine dG [131, 132, 133] [true, true, true, true, true, true, true, true, true, true, true, true, true, true, true] [] [] ?_
   refine cd (W6.row_ok) ?_
   refine dT [130] [true, true, true, true, true, true, true, true, true, true, true, true, true, true, true, false] [] ?_
   refine dT [130] [true, true, true, true, true, true, true, true, true, true, true, true, true, true, true, false, true] [] ?_
   refine dT [130] [true, true, true, true, true, true, true, true, true, true, true, true, true, true, true, false, true, true] [] ?_
   refine dG [] [true, true, true, true, true, true, true, true, true, true, true, true, true, true, true, true, true, true, true] [] [] ?_
   refine cd (held_ex ey_held.1 (by decide)) ?_
   refine dT [] [true, true, true, true, true, true, true, true, true, true, true, true, true, true, true, true, true, true, true, true] [] ?_
   refine dB [([], [true, true, true, true, true, true, true, true, true, true, true, true, true, true, true, true, true, true, true, true, true], []), ([], [true, true, true, true, true, true, true, true, true, true, true, true, true, true, true, true, true, true, true, true, true, true], [])] 16 23 ?_
   refine dG [139] [true, true, true, true, true, true, true, true, true, true, true, true, true, true, true, true, true, true, true, true, true, true, true] [] [] ?_
   refine cd (W6.row_ok) ?_
   refine WDraw.bldI hΓ (viewB_eq (L := [138]) (S := [true, true, true, true, true, true, true, true, true, true, true, true, true, true, true, true, true, true, true, true, true, true, true, false]) (O := []) (by kernel_rfl) (by kernel_rfl) (by simp [hHS, hBS, hHSl, hBSl, hH0, hH2, hI0, hc2]; rfl)) (by first | rfl | simp) (by simp [hHS, hBS, hHSl, hBSl, hH0, hH2, hI0, hc2]; first | rfl | exact ⟨rfl, rfl⟩) (by simp [hHS, hBS, hHSl, hBSl, hH0, hH2, hI0, hc2, imD]; first | rfl | exact ⟨rfl, rfl⟩) (by first | rfl | simp) (by simp [hHS, hBS, hHSl, hBSl, hH0, hH2, hI0, hc2]; first | done | rfl) (by simp [hHS, hBS, hHSl, hBSl, hH0, hH2, hI0, hc2]; rfl) ?_
   refine dG [] [true, true, true, true, true, true, true, true, true, true, true, true, true, true, true, true, true, true, true, true, true, true, true, true, true] [] [] ?_
   refine cd (on_imm 0 [1, 1, 2, 3] (by simp)) ?_
   refine dG [] [true, true, true, true, true, true, true, true, true, true, true, true, true, true, true, true, true, true, true, true, true, true, true, true, true, true] [] [] ?_
   refine cd (held_ex ey_hx.1 (by decide)) ?_
   refine dT [] [true, true, true, true, true, true, true, true, true, true, true, true, true, true, true, true, true, true, true, true, true, true, true, true, true, true, true] [] ?_
   refine dB [([], [true, true, true, true, true, true, true, true, true, true, true, true, true, true, true, true, true, true, true, true, true, true, true, true, true, true, true, true], []), ([], [true, true, true, true, true, true, true, true, true, true, true, true, true, true, true, true, true, true, true, true, true, true, true, true, true, true, true, true, true], [])] 9 30 ?_
   refine dG [146] [true, true, true, true, true, true, true, true, true, true, true, true, true, true, true, true, true, true, true, true, true, true, true, true, true, true, true, true, true, true] [] [] ?_
   refine cd (W6.row_ok) ?_
   refine WDraw.bldI hΓ (viewB_eq (L := [145]) (S := [true, true, true, true, true, true, true, true, true, true, true, true, true, true, true, true, true, true, true, true, true, true, true, true, true, true, true, true, true, true, false]) (O := []) (by kernel_rfl) (by kernel_rfl) (by simp [hHS, hBS, hHSl, hBSl, hH0, hH2, hI0, hc2]; rfl)) (by first | rfl | simp) (by simp [hHS, hBS, hHSl, hBSl, hH0, hH2, hI0, hc2]; first | rfl | exact ⟨rfl, rfl⟩) (by simp [hHS, hBS, hHSl, hBSl, hH0, hH2, hI0, hc2, imD]; first | rfl | exact ⟨rfl, rfl⟩) (by first | rfl | simp) (by simp [hHS, hBS, hHSl, hBSl, hH0, hH2, hI0, hc2]; first | done | rfl) (by simp [hHS, hBS, hHSl, hBSl, hH0, hH2, hI0, hc2]; rfl) ?_
   refine dG [] [true, true, true, true, true, true, true, true, true, true, true, true, true, true, true, true, true, true, true, true, true, true, true, true, true, true, true, true, true, true, true, true] [] [] ?_
   refine cd (on_imm 0 [1, 0, 2] (by simp)) ?_
   refine dG [] [true, true, true, true, true, true, true, true, true, true, true, true, true, true, true, true, true, true, true, true, true, true, true, true, true, true, true, true, true, true, true, true, true] [] [] ?_
   refine cd (held_ex ey_hx.2.1 (by decide)) ?_
   refine dT [] [true, true, true, true, true, true, true, true, true, true, true, true, true, true, true, true, true, true, true, true, true, true, true, true, true, true, true, true, true, true, true, true, true, true] [] ?_
   refine dB [([], [true, true, true, true, true, true, true, true, true, true, true, true, true, true, true, true, true, true, true, true, true, true, true, true, true, true, true, true, true, true, true, true, true, true, true], []), ([], [true, true, true, true, true, true, true, true, true, true, true, true, true, true, true, true, true, true, true, true, true, true, true, true, true, true, true, true, true, true, true, true, true, true, true, true], [])] 2 37 ?_
   refine dG [153] [true, true, true, true, true, true, true, true, true, true, true, true, true, true, true, true, true, true, true, true, true, true, true, true, true, true, true, true, true, true, true, true, true, true, true, true, true] [] [] ?_
   refine cd (W6.row_ok) ?_
   refine WDraw.bldI hΓ (viewB_eq (L := [152]) (S := [true, true, true, true, true, true, true, true, true, true, true, true, true, true, true, true, true, true, true, true, true, true, true, true, true, true, true, true, true, true, true, true, true, true, true, true, true, false]) (O := []) (by kernel_rfl) (by kernel_rfl) (by simp [hHS, hBS, hHSl, hBSl, hH0, hH2, hI0, hc2]; rfl)) (by first | rfl | simp) (by simp [hHS, hBS, hHSl, hBSl, hH0, hH2, hI0, hc2]; first | rfl | exact ⟨rfl, rfl⟩) (by simp [hHS, hBS, hHSl, hBSl, hH0, hH2, hI0, hc2, imD]; first | rfl | exact ⟨rfl, rfl⟩) (by first | rfl | simp) (by simp [hHS, hBS, hHSl, hBSl, hH0, hH2, hI0, hc2]; first | done | rfl) (by simp [hHS, hBS, hHSl, hBSl, hH0, hH2, hI0, hc2]; rfl) ?_
   refine dD ?_
   refine gC [] ?_
   refine ct (on_imm 0 [1, 0, 2, 4] (by simp)) ?_
   refine gC [] ?_
   refine ct (held_ex ey_hx.2.2 (by decide)) ?_
   refine gT ?_
   refine oN 1 ?_
   refine oK [157] ?_
   refine cF ?_
   refine W.skip ?_
   refine hK5 _ ?_
   clear hK5 K5
   refine W.seqR ?_
   refine oC [] ?_
   refine ct (hall_ok) ?_
   refine oN 1 ?_
   refine fz 1280 ?_
   refine oC [] ?_
   refine ct (from_ex) ?_
   refine oN 8 ?_
   refine oK [10, 13, 14] ?_
   refine W.seqR ?_
   refine oN 1 ?_
   refine oC [] ?_
   refine ct (swap_ex) ?_
   refine oN 5 ?_
   refine oK [10, 12, 13, 14, 15] ?_
   refine W.seqR ?_
   refine oC [] ?_
   refine ct (W6.row_ok) ?_
   refine oC [(10900, 10900)] ?_
   refine ct (write_ex ob) ?_
   refine oN 5 ?_
   refine oK [10, 12, 13, 14, 15, 16, 17] ?_
   refine W.seqR ?_
   refine oN 1 ?_
   refine fz 1400 ?_
   refine oC [] ?_
   refine ct (on_imm 4 [1, 2, 0] (by simp)) ?_
   refine oN 1 ?_
   refine fz 1416 ?_
   refine oC [] ?_
   refine ct (on_imm 4 [1, 2] (by simp)) ?_
   refine oN 1 ?_
   refine fz 1432 ?_
   refine oC [] ?_
   refine ct (on_imm 4 [0, 2] (by simp)) ?_
   refine oN 1 ?_
   refine fz 1448 ?_
   refine oC [] ?_
   refine ct (on_imm 4 [2, 1, 0] (by simp)) ?_
   refine oN 4 ?_
   refine oK [10, 12, 13, 14, 15, 16, 17, 18] ?_
   refine W.weaken (Le.freeze (id := 1464) (by simp [hHS, hBS, hHSl, hBSl, hH0, hH2, hI0, hc2]; rfl)) ?_
   refine W.seqR ?_
   refine oN 3 ?_
   refine gT ?_
   refine gT ?_
   refine oN 2 ?_
   refine gT ?_
   refine gT ?_
   refine oN 2 ?_
   refine gT ?_
   refine gT ?_
   refine gC [] ?_
   refine ct (W6.SameInts_ok [1, 2, 3] [1, 2, 3]) ?_
   refine oN 2 ?_
   refine gT ?_
   refine gT ?_
   refine gC [] ?_
   refine ct (W6.SameTrades_ok [(1, 4), (2, 4), (0, 4)] [(1, 4), (2, 4), (0, 4)] [[(1, 4), (2, 4)], [(0, 4), (2, 4)], [(2, 4), (1, 4), (0, 4)]] [[(1, 4), (2, 4)], [(0, 4), (2, 4)], [(2, 4), (1, 4), (0, 4)]]) ?_
   refine oN 2 ?_
   refine gT ?_
   refine gT ?_
   refine WOps.gd rfl rfl (by simp [hHS, hBS, hHSl, hBSl, hH0, hH2, hI0, hc2]; first | rfl | exact (Bool.not_not _).symm) ?_
   (with_reducible refine WG.isT ?_)
   refine WGt.frz (Le.freeze (id := 1656) (by simp [hHS, hBS, hHSl, hBSl, hH0, hH2, hI0, hc2]; rfl)) rfl rfl ?_
   refine WGt.call rfl rfl rfl [] rfl rfl (by decide) (by simp [hHS, hBS, hHSl, hBSl, hH0, hH2, hI0, hc2]; first | rfl | exact ⟨rfl, rfl⟩) (by simp [hHS, hBS, hHSl, hBSl, hH0, hH2, hI0, hc2]; rfl) ?_
   refine ct (on_imm 4 [1, 0, 2] (by simp)) ?_
   refine gC [] ?_
   refine ct (W6.SameTurns_ok [(1, 4), (0, 4), (2, 4)] [(1, 4), (0, 4), (2, 4)]) ?_
   refine oN 2 ?_
   refine gT ?_
   refine gT ?_
   refine oN 2 ?_
   refine oK [0] ?_
   refine W.ret ?_
   refine er false [] [(10900, 10900)] ?_
   exact ⟨congrArg (fun b => AV.val (Value.bool b)) (by decide +kernel), rfl⟩
end Go.Sim
