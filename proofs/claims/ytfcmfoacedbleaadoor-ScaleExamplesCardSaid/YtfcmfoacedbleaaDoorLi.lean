/- Seals: what is asked of them; which plan is better. -/
import Derived.Test.YtfcmfoacedbleaaDoorLa
import Derived.Test.YtfcmfoacedbleaaDoorQg
namespace Go.Sim
open Go.Proofs
set_option maxRecDepth 100000
set_option linter.unusedSimpArgs false
set_option linter.unusedVariables false
attribute [-simp] List.map_set List.map_take List.map_drop
attribute [simp] spn_eta T2_def T2_isData plnV_def
/-- nil in a variable's cell, seen as an empty slice -/
def St.immNilO (st : St) (id k j : Nat) : Option St :=
  match look id st.objs with
  | some (.row false t s els) => match els[k]? with
    | some y => match y.cells[j]? with
      | some (.val (.slice none 0 0)) => match y.setCells j [.imm []] with
        | some z => some { st with objs := upd id (.row false t s (els.set k z)) st.objs }
        | none => none
      | _ => none
    | none => none
  | _ => none
attribute [simp] St.immNilO
theorem Le.immNilO {st s2 : St} {id k j : Nat} (h : st.immNilO id k j = some s2) : Le st s2 := by
  intro a w e hc
  unfold St.immNilO at h
  split at h
  · rename_i t s els ho
    split at h
    · rename_i y hy
      split at h
      · rename_i hcell
        split at h
        · rename_i z hz
          cases h
          have hdom := hc.sim.dom id
          rw [ho] at hdom
          obtain ⟨m, hm⟩ := Option.isSome_iff_exists.1 (hdom.trans rfl)
          have hk := hc.sim.obj id _ m ho hm
          obtain ⟨hle, hzc⟩ := AV.setCells_cells hz
          refine ⟨_, hc.write id _ m hm (Fr.refl _ _) (fun _ _ _ _ _ _ => rfl) ⟨hk.hsz, by simpa using hk.len, hk.cap, fun x hx => ?_, hk.only, ?_⟩, Fr.refl _ _⟩
          · rcases List.mem_or_eq_of_mem_set hx with hx | rfl
            · exact hk.cells x hx
            · rw [hzc, ← hk.cells y (List.mem_of_getElem? hy)]
              simp only [setSeg, List.length_append, List.length_take, List.length_drop, List.length_singleton] at hle ⊢
              omega
          · have hkb := hk.blk
            cases hmb : m.blk with
            | none => simpa [hmb] using hkb
            | some b =>
              simp only [hmb] at hkb ⊢
              obtain ⟨cur, h1, h2, h3⟩ := hkb
              refine ⟨cur, h1, h2, fun i x hx jj q hq => ?_⟩
              rw [List.getElem?_set] at hx
              by_cases hki : k = i
              · subst hki
                rw [if_pos rfl] at hx
                split at hx
                · cases hx
                  rw [hzc] at hq
                  by_cases hjj : jj = j
                  · subst hjj
                    have hjlt : jj < y.cells.length := (List.getElem?_eq_some_iff.1 hcell).1
                    simp only [setSeg, List.getElem?_append, List.length_take, List.length_singleton] at hq
                    rw [if_neg (by omega)] at hq
                    have : jj - min jj y.cells.length = 0 := by omega
                    rw [this] at hq
                    simp only [List.length_singleton, Nat.lt_one_iff, if_true, List.getElem?_cons_zero, Option.some.injEq] at hq
                    subst hq
                    obtain ⟨v, g1, g2, g3⟩ := h3 k y hy jj _ hcell
                    have hv := g3.rd.val_inv
                    subst hv
                    exact ⟨_, g1, g2, by simp only [CellRd, Bool.false_eq_true, if_false]; exact .data (.imm0 none 0)⟩
                  · refine h3 k y hy jj q ?_
                    simp only [setSeg, List.getElem?_append, List.length_take, List.length_singleton] at hq
                    by_cases hlt : jj < j
                    · have hjlt : j < y.cells.length := (List.getElem?_eq_some_iff.1 hcell).1
                      rw [if_pos (by omega), List.getElem?_take, if_pos hlt] at hq
                      exact hq
                    · have hjlt : j < y.cells.length := (List.getElem?_eq_some_iff.1 hcell).1
                      rw [if_neg (by omega), if_neg (by omega), List.getElem?_drop] at hq
                      rw [← hq]; congr 1; omega
                · cases hx
              · rw [if_neg hki] at hx
                exact h3 i x hx jj q hq
        · cases h
      · cases h
    · cases h
  · cases h
set_option maxHeartbeats 4000000 in
theorem bad1_ok (n low : Int) : ACalls Tryd.prog 74 [I n, .ptr 10000 0 0] [(10000, .row false 3 1 [I low])] (fun r o => r = B (!inB n low 10) ∧ o = [(10000, .row false 3 1 [I low])]) := by
 have F := Fx.nil
 refine ent Tryd.func74 Tryd.ntmps74 Tryd.results74 ?_
 refine rK [0, 1] ?_
 refine W.seqR ?_
 refine oN 2 ?_
 refine oC [] ?_
 refine ct (in_ok _ _ _) ?_
 refine oN 2 ?_
 refine oK [3] ?_
 refine W.ret ?_
 exact er0 false [] [(10000, 10000)]
def idxB (l : List Int) (low : Int) : Int := if (l.any fun n => !inB n low 10) = true then ((l.findIdx fun n => !inB n low 10 : Nat) : Int) else -1
theorem idxB_pos {l : List Int} {low : Int} : decide (0 ≤ idxB l low) = (l.any fun n => !inB n low 10) := by
  unfold idxB
  cases h : l.any fun n => !inB n low 10 with
  | true => rw [if_pos rfl]; simp
  | false => rw [if_neg (by decide)]; rfl
theorem idxB_hit {l : List Int} {low : Int} {i : Nat} (hi : i < l.length) (hb : ∀ j, (h : j < l.length) → j < i → inB l[j] low 10 = true) (hx : ¬ inB l[i] low 10 = true) : idxB l low = i := by
  unfold idxB
  rw [if_pos (List.any_eq_true.2 ⟨l[i], List.getElem_mem hi, by simpa using hx⟩)]
  have : l.findIdx (fun n => !inB n low 10) = i := by
    rw [List.findIdx_eq hi]
    exact ⟨by simpa using hx, fun j hj => by rw [hb j (by omega) hj]; rfl⟩
  rw [this]
theorem idxB_none {l : List Int} {low : Int} (hb : ∀ j, (h : j < l.length) → inB l[j] low 10 = true) : idxB l low = -1 := by
  unfold idxB
  rw [if_neg]
  rw [List.any_eq_true]
  rintro ⟨n, hn, hx⟩
  obtain ⟨j, hj, rfl⟩ := List.getElem_of_mem hn
  rw [hb j hj] at hx; simp at hx
set_option maxHeartbeats 4000000 in
theorem index_ok (l : List Int) (low : Int) : ACalls Tryd.prog 81 [ints l, .clo 74 [.ptr 10000 0 0]] [(10000, .row false 3 1 [I low])] (fun r o => r = I (idxB l low) ∧ o = [(10000, .row false 3 1 [I low])]) := by
 refine ACalls.len (l := l.map I) (by simp) ⟨_, Tryd.func81, by kernel_rfl, by kernel_rfl⟩ fun hl => ?_
 simp [maxLen_val] at hl
 have F := Fx.nil
 refine ent Tryd.func81 Tryd.ntmps81 Tryd.results81 ?_
 refine rK [0, 1] ?_
 refine W.seqk fun K1 hK1 => ?_
 refine rK [0, 1, 7, 8] ?_
 refine W.block ?_
 refine lpa (α := Nat) [0, 1, 7] [16] [] (fun i => [(8, I i)]) (fun i => []) (fun i => i ≤ l.length ∧ ∀ j, (h : j < l.length) → j < i → inB l[j] low 10 = true) (fun i => l.length - i) 0 v0 ?_
 ·
  intro i hI0
  simp only [List.cons_append, List.nil_append]
  try dsimp only at hI0
  obtain ⟨hi, ka⟩ := hI0
  replace F := F.add hi
  refine rK [0, 1, 7, 8, 9] ?_
  refine W.seqk fun K2 hK2 => ?_
  refine it (fun hc1 => ?_) (fun hc1 => ?_)
  ·
   try simp at hc1
   replace F := F.add hc1
   refine W.skip ?_
   refine hK2 _ ?_
   clear hK2 K2
   refine W.seqk fun K3 hK3 => ?_
   refine W.block ?_
   refine rK [0, 1, 5, 7, 8] ?_
   by_cases hx : inB l[i] low 10 = true
   ·
    replace F := F.add hx
    have hil : i < l.length := by omega
    replace F := F.add hil
    refine W.seqR ?_
    refine oN 5 ?_
    refine oC [(10000, 10000)] ?_
    refine ct (bad1_ok l[i] low) ?_
    refine oK [0, 1, 5, 7, 8, 16] ?_
    refine cF ?_
    refine W.skip ?_
    refine hK3 _ ?_
    clear hK3 K3
    refine rEw ?_
    refine ⟨i + 1, lf0, ?_, v0⟩
    ·
     refine ⟨by omega, fun j h hj => ?_⟩
     by_cases e : j = i
     · subst e; exact hx
     · exact ka j h (by omega)
   ·
    replace F := F.add hx
    have hil : i < l.length := by omega
    replace F := F.add hil
    refine W.seqR ?_
    refine oN 5 ?_
    refine oC [(10000, 10000)] ?_
    refine ct (bad1_ok l[i] low) ?_
    refine oK [0, 1, 5, 7, 8, 16] ?_
    refine cT ?_
    refine rK [4] ?_
    refine W.ret ?_
    refine br (tr (tr (br (tr ?_))))
    clear hK3 K3 hK1 K1
    refine er false [] [(10000, 10000)] ?_
    exact ⟨congrArg I (idxB_hit hil ka hx).symm, rfl⟩
  ·
   try simp at hc1
   replace F := F.add hc1
   refine W.exit ?_
   refine hK1 _ ?_
   clear hK2 K2 hK1 K1
   refine rK [4] ?_
   refine W.ret ?_
   refine er false [] [(10000, 10000)] ?_
   exact ⟨congrArg I (idxB_none fun j h => ka j h (by omega)).symm, rfl⟩
set_option maxHeartbeats 4000000 in
theorem contains_ok (l : List Int) (low : Int) : ACalls Tryd.prog 73 [ints l, .clo 74 [.ptr 10000 0 0]] [(10000, .row false 3 1 [I low])] (fun r o => r = B (l.any fun n => !inB n low 10) ∧ o = [(10000, .row false 3 1 [I low])]) := by
 have F := Fx.nil
 refine ent Tryd.func73 Tryd.ntmps73 Tryd.results73 ?_
 refine rK [0, 1] ?_
 refine W.seqR ?_
 refine oN 2 ?_
 refine oC [(10000, 10000)] ?_
 refine ct (index_ok l low) ?_
 refine oN 2 ?_
 refine oK [4] ?_
 refine W.ret ?_
 refine er false [] [(10000, 10000)] ?_
 exact ⟨by rw [← idxB_pos], rfl⟩
set_option maxHeartbeats 4000000 in
theorem bad_ok (l : List Int) (low : Int) : ACalls Tryd.prog 72 [ints l, I low] [] (fun r o => r = B (l.any fun n => !inB n low 10) ∧ o = []) := by
 have F := Fx.nil
 refine ent Tryd.func72 Tryd.ntmps72 Tryd.results72 ?_
 refine rK [0, 3] ?_
 refine W.seqR ?_
 refine oN 2 ?_
 refine oC [(10000, 24)] ?_
 refine ct (contains_ok l low) ?_
 refine oN 1 ?_
 refine oK [4] ?_
 refine W.ret ?_
 exact er0 false [] []
set_option maxHeartbeats 4000000 in
theorem seaC_ok (s : Sls) (hl : s.lef.length ≤ 1000) (he : s.eve.length ≤ 1000) : ACalls Tryd.prog 52 [slsV s] [] (fun r o => r = I (seaC s) ∧ o = []) := by
 have F := Fx.nil
 replace F := F.add hl |>.add he
 refine ent Tryd.func52 Tryd.ntmps52 Tryd.results52 ?_
 refine rK [1] ?_
 refine W.seqk fun K1 hK1 => ?_
 refine W.seqR ?_
 refine oN 3 ?_
 refine oC [] ?_
 refine ct (many_ok (s.lef.length : Int) 4) ?_
 refine oN 1 ?_
 refine oK [1, 3] ?_
 refine rK [1, 3, 10] ?_
 refine it (fun hc1 => ?_) (fun hc1 => ?_)
 ·
  try simp at hc1
  replace F := F.add hc1
  refine rK [2] ?_
  refine W.ret ?_
  refine tr ?_
  clear hK1 K1
  refine er false [] [] ?_
  exact ⟨congrArg I (by unfold seaC; rw [if_pos (by simpa using hc1)]), rfl⟩
 ·
  try simp at hc1
  replace F := F.add hc1
  refine W.skip ?_
  refine hK1 _ ?_
  clear hK1 K1
  refine rK [1, 4] ?_
  refine W.seqk fun K2 hK2 => ?_
  refine W.block ?_
  refine rK [1, 4, 12] ?_
  refine it (fun hc2 => ?_) (fun hc2 => ?_)
  ·
   try simp at hc2
   replace F := F.add hc2
   refine rK [2] ?_
   refine W.ret ?_
   refine br (tr ?_)
   clear hK2 K2
   refine er false [] [] ?_
   exact ⟨congrArg I (by unfold seaC; rw [if_neg (by omega), if_pos (by omega)]), rfl⟩
  ·
   try simp at hc2
   replace F := F.add hc2
   refine W.seqk fun K3 hK3 => ?_
   by_cases hd : inB s.days 0 10 = true
   ·
    replace F := F.add hd
    refine W.seqR ?_
    refine oN 2 ?_
    refine oC [] ?_
    refine ct (in_ok _ _ _) ?_
    refine oN 2 ?_
    refine oK [1, 4, 20] ?_
    refine cF ?_
    by_cases hm2 : inB s.most 0 4 = true
    ·
     replace F := F.add hm2
     refine W.seqR ?_
     refine oN 2 ?_
     refine oC [] ?_
     refine ct (in_ok _ _ _) ?_
     refine oN 2 ?_
     refine oK [1, 4, 20] ?_
     refine cF ?_
     by_cases hn : (s.lef.any fun n => !inB n (-1) 10) = true
     ·
      replace F := F.add hn
      refine W.seqR ?_
      refine oN 3 ?_
      refine oC [] ?_
      refine ct (bad_ok s.lef (-1)) ?_
      refine oN 1 ?_
      refine oK [1, 4, 20] ?_
      refine cT ?_
      refine W.skip ?_
      refine hK3 _ ?_
      clear hK3 K3
      refine cT ?_
      refine rK [2] ?_
      refine W.ret ?_
      refine br (tr ?_)
      clear hK2 K2
      refine er false [] [] ?_
      exact ⟨congrArg I (by unfold seaC; rw [if_neg (by omega), if_neg (by omega), if_pos (by simp_all)]), rfl⟩
     ·
      replace F := F.add hn
      refine W.seqR ?_
      refine oN 3 ?_
      refine oC [] ?_
      refine ct (bad_ok s.lef (-1)) ?_
      refine oN 1 ?_
      refine oK [1, 4, 20] ?_
      refine cF ?_
      by_cases he2 : (s.eve.any fun n => !inB n 0 10) = true
      ·
       replace F := F.add he2
       refine W.region ?_
       refine oN 3 ?_
       refine oC [] ?_
       refine ct (bad_ok s.eve 0) ?_
       refine oN 1 ?_
       refine WOps.endK ?_
       refine hK3 _ ?_
       clear hK3 K3
       refine cT ?_
       refine rK [2] ?_
       refine W.ret ?_
       refine br (tr ?_)
       clear hK2 K2
       refine er false [] [] ?_
       exact ⟨congrArg I (by unfold seaC; rw [if_neg (by omega), if_neg (by omega), if_pos (by simp_all)]), rfl⟩
      ·
       replace F := F.add he2
       refine W.region ?_
       refine oN 3 ?_
       refine oC [] ?_
       refine ct (bad_ok s.eve 0) ?_
       refine oN 1 ?_
       refine WOps.endK ?_
       refine hK3 _ ?_
       clear hK3 K3
       refine cF ?_
       refine W.skip ?_
       refine hK2 _ ?_
       clear hK2 K2
       refine rK [2] ?_
       refine W.ret ?_
       refine er false [] [] ?_
       exact ⟨congrArg I (by unfold seaC; rw [if_neg (by omega), if_neg (by omega), if_neg (by simp_all)]), rfl⟩
    ·
     replace F := F.add hm2
     refine W.seqR ?_
     refine oN 2 ?_
     refine oC [] ?_
     refine ct (in_ok _ _ _) ?_
     refine oN 2 ?_
     refine oK [1, 4, 20] ?_
     refine cT ?_
     refine W.skip ?_
     refine hK3 _ ?_
     clear hK3 K3
     refine cT ?_
     refine rK [2] ?_
     refine W.ret ?_
     refine br (tr ?_)
     clear hK2 K2
     refine er false [] [] ?_
     exact ⟨congrArg I (by unfold seaC; rw [if_neg (by omega), if_neg (by omega), if_pos (by simp_all)]), rfl⟩
   ·
    replace F := F.add hd
    refine W.seqR ?_
    refine oN 2 ?_
    refine oC [] ?_
    refine ct (in_ok _ _ _) ?_
    refine oN 2 ?_
    refine oK [1, 4, 20] ?_
    refine cT ?_
    refine W.skip ?_
    refine hK3 _ ?_
    clear hK3 K3
    refine cT ?_
    refine rK [2] ?_
    refine W.ret ?_
    refine br (tr ?_)
    clear hK2 K2
    refine er false [] [] ?_
    exact ⟨congrArg I (by unfold seaC; rw [if_neg (by omega), if_neg (by omega), if_pos (by simp_all)]), rfl⟩
set_option maxHeartbeats 4000000 in
theorem isNaN_ok (n : Int) : ACalls Tryd.prog 82 [I n] [] (fun r o => r = B false ∧ o = []) := by
 have F := Fx.nil
 refine ent Tryd.func82 Tryd.ntmps82 Tryd.results82 ?_
 refine rK [0] ?_
 refine rK [2] ?_
 refine W.ret ?_
 exact er0 false [] []
set_option maxHeartbeats 4000000 in
theorem Compare_ok (a b : Int) : ACalls Tryd.prog 77 [I a, I b] [] (fun r o => r = I (cmpI a b) ∧ o = []) := by
 have F := Fx.nil
 refine ent Tryd.func77 Tryd.ntmps77 Tryd.results77 ?_
 refine rK [0, 1] ?_
 refine W.seqR ?_
 refine oN 1 ?_
 refine oC [] ?_
 refine ct (isNaN_ok a) ?_
 refine oN 1 ?_
 refine oK [0, 1, 5] ?_
 refine W.seqR ?_
 refine oN 1 ?_
 refine oC [] ?_
 refine ct (isNaN_ok b) ?_
 refine oN 1 ?_
 refine oK [0, 1, 5, 6] ?_
 refine W.seqk fun K1 hK1 => ?_
 refine rK [0, 1, 6, 11] ?_
 refine cF ?_
 refine W.skip ?_
 refine hK1 _ ?_
 clear hK1 K1
 refine W.seqk fun K2 hK2 => ?_
 refine rK [0, 1, 13] ?_
 refine cF ?_
 refine W.skip ?_
 refine hK2 _ ?_
 clear hK2 K2
 refine W.seqk fun K3 hK3 => ?_
 refine rK [0, 1, 16] ?_
 refine it (fun hc3 => ?_) (fun hc3 => ?_)
 ·
  try simp at hc3
  replace F := F.add hc3
  refine rK [4] ?_
  refine W.ret ?_
  refine tr ?_
  clear hK3 K3
  refine er false [] [] ?_
  exact ⟨congrArg I (by unfold cmpI; (repeat' split) <;> first | rfl | omega), rfl⟩
 ·
  try simp at hc3
  replace F := F.add hc3
  refine W.skip ?_
  refine hK3 _ ?_
  clear hK3 K3
  refine W.seqk fun K4 hK4 => ?_
  refine rK [19] ?_
  refine it (fun hc4 => ?_) (fun hc4 => ?_)
  ·
   try simp at hc4
   replace F := F.add hc4
   refine rK [4] ?_
   refine W.ret ?_
   refine tr ?_
   clear hK4 K4
   refine er false [] [] ?_
   exact ⟨congrArg I (by unfold cmpI; (repeat' split) <;> first | rfl | omega), rfl⟩
  ·
   try simp at hc4
   replace F := F.add hc4
   refine W.skip ?_
   refine hK4 _ ?_
   clear hK4 K4
   refine rK [4] ?_
   refine W.ret ?_
   refine er false [] [] ?_
   exact ⟨congrArg I (by unfold cmpI; (repeat' split) <;> first | rfl | omega), rfl⟩
set_option maxHeartbeats 4000000 in
theorem Or_ok (a b : Int) : ACalls Tryd.prog 76 [ints [a, b]] [] (fun r o => r = I (if a ≠ 0 then a else b) ∧ o = []) := by
 have F := Fx.nil
 refine ent Tryd.func76 Tryd.ntmps76 Tryd.results76 ?_
 refine rK [0] ?_
 refine rK [0, 3] ?_
 refine W.seqk fun K1 hK1 => ?_
 refine rK [3, 6, 7, 8] ?_
 refine W.block ?_
 refine lpa (α := Nat) [3, 6, 7] [] [] (fun i => [(8, I i)]) (fun i => []) (fun i => i ≤ 2 ∧ (0 < i → a = 0) ∧ (1 < i → b = 0)) (fun i => 2 - i) 0 v0 ?_
 ·
  intro i hI0
  simp only [List.cons_append, List.nil_append]
  try dsimp only at hI0
  obtain ⟨hi, k1, k2⟩ := hI0
  replace F := F.add hi
  refine rK [3, 6, 7, 8, 9] ?_
  refine W.seqk fun K2 hK2 => ?_
  refine it (fun hc1 => ?_) (fun hc1 => ?_)
  ·
   try simp at hc1
   replace F := F.add hc1
   refine W.skip ?_
   refine hK2 _ ?_
   clear hK2 K2
   refine W.seqk fun K3 hK3 => ?_
   refine W.block ?_
   by_cases hi0 : i = 0
   ·
    replace F := F.add hi0
    refine rK [3, 5, 6, 7, 8] ?_
    refine rK [3, 5, 6, 7, 8, 14] ?_
    refine it (fun hc2 => ?_) (fun hc2 => ?_)
    ·
     try simp at hc2
     replace F := F.add hc2
     refine rK [2] ?_
     refine W.ret ?_
     refine br (tr (tr (br (tr ?_))))
     clear hK3 K3 hK1 K1
     exact er0 false [] []
    ·
     try simp at hc2
     replace F := F.add hc2
     refine W.skip ?_
     refine hK3 _ ?_
     clear hK3 K3
     refine rEw ?_
     refine ⟨i + 1, lf0, v0, v0⟩
   ·
    replace F := F.add hi0
    have hi1 : i = 1 := by omega
    replace F := F.add hi1
    refine rK [3, 5, 6, 7, 8] ?_
    refine rK [3, 5, 6, 7, 8, 14] ?_
    refine it (fun hc3 => ?_) (fun hc3 => ?_)
    ·
     try simp at hc3
     replace F := F.add hc3
     refine rK [2] ?_
     refine W.ret ?_
     refine br (tr (tr (br (tr ?_))))
     clear hK3 K3 hK1 K1
     exact er0 false [] []
    ·
     try simp at hc3
     replace F := F.add hc3
     refine W.skip ?_
     refine hK3 _ ?_
     clear hK3 K3
     refine rEw ?_
     refine ⟨i + 1, lf0, v0, v0⟩
  ·
   try simp at hc1
   replace F := F.add hc1
   refine W.exit ?_
   refine hK1 _ ?_
   clear hK2 K2 hK1 K1
   refine rK [2] ?_
   refine W.ret ?_
   exact er0 false [] []
set_option maxHeartbeats 4000000 in
theorem later_ok (x y : Tst) : ACalls Tryd.prog 75 [T2 x, T2 y] [] (fun r o => r = I (cmp1 x y) ∧ o = []) := by
 have F := Fx.nil
 refine ent Tryd.func75 Tryd.ntmps75 Tryd.results75 ?_
 refine rK [2, 3] ?_
 refine wD 9 [] [[], [0], [], [2], [2, 3, 0, 1], [], [5], [], [7], [1, 0, 3, 2, 4, 7, 8, 5, 6], [6, 5, 8, 7, 9, 1, 0, 3, 2, 4], [4, 2, 3, 0, 1, 9, 7, 8, 5, 6, 10], [10, 6, 5, 8, 7, 9, 1, 0, 3, 2, 4, 11]] ?_
 refine dB [([7, 8, 10, 11, 12, 13], [], []), ([7, 8, 10, 11, 12, 13], [true], []), ([5, 6, 10, 11, 12, 13], [false, false], []), ([5, 6, 10, 11, 12, 13], [false, false, true], [])] 5 4 ?_
 refine dC [10, 11, 12, 13] [true, true, true, true] [] [] ?_
 refine cd (Compare_ok x.day y.day) ?_
 refine dB [([5, 6, 7, 8, 9, 12, 13], [false, false, false, false, false], []), ([5, 6, 7, 8, 9, 12, 13], [false, false, false, false, false, true], []), ([5, 6, 7, 8, 9, 10, 11], [false, false, false, false, false, false, false], []), ([5, 6, 7, 8, 9, 10, 11], [false, false, false, false, false, false, false, true], [])] 0 9 ?_
 refine dD ?_
 refine oC [] ?_
 refine ct (Compare_ok x.sc y.sc) ?_
 refine oN 1 ?_
 refine oC [] ?_
 refine ct (Or_ok (cmpI x.day y.day) (cmpI x.sc y.sc)) ?_
 refine oN 1 ?_
 refine oK [4] ?_
 refine W.ret ?_
 refine er false [] [] ?_
 exact ⟨congrArg I (by unfold cmp1; split <;> simp_all), rfl⟩
theorem cmpT_skip {a b : List Tst} {i : Nat} (h1 : i < a.length) (h2 : i < b.length) (h : cmp1 a[i] b[i] = 0) : cmpT (a.drop i) (b.drop i) = cmpT (a.drop (i + 1)) (b.drop (i + 1)) := by
  rw [List.drop_eq_getElem_cons h1, List.drop_eq_getElem_cons h2, cmpT, if_neg (fun n => n h)]
theorem cmpT_hit {a b : List Tst} {i : Nat} (h1 : i < a.length) (h2 : i < b.length) (h : ¬ cmp1 a[i] b[i] = 0) : cmpT (a.drop i) (b.drop i) = cmp1 a[i] b[i] := by
  rw [List.drop_eq_getElem_cons h1, List.drop_eq_getElem_cons h2, cmpT, if_pos h]
theorem cmpT_long {a b : List Tst} {i : Nat} (h1 : i < a.length) (h2 : b.length ≤ i) : cmpT (a.drop i) (b.drop i) = 1 := by
  rw [List.drop_eq_getElem_cons h1, List.drop_of_length_le h2, cmpT]
theorem cmpT_end {a b : List Tst} {i : Nat} (h1 : a.length ≤ i) (hi : i ≤ a.length) : cmpT (a.drop i) (b.drop i) = if a.length < b.length then -1 else 0 := by
  rw [List.drop_of_length_le h1]
  by_cases h : i < b.length
  · rw [List.drop_eq_getElem_cons h, cmpT, if_pos (by omega)]
  · rw [List.drop_of_length_le (by omega), cmpT, if_neg (by omega)]
set_option maxHeartbeats 4000000 in
theorem cmpF_ok (a b : List Tst) : ACalls Tryd.prog 78 [tstV a, tstV b, .clo 75 []] [] (fun r o => r = I (cmpT a b) ∧ o = []) := by
 refine ACalls.len (l := a.map T2) (by simp) ⟨_, Tryd.func78, by kernel_rfl, by kernel_rfl⟩ fun hl => ?_
 simp [maxLen_val] at hl
 refine ACalls.len (l := b.map T2) (by simp) ⟨_, Tryd.func78, by kernel_rfl, by kernel_rfl⟩ fun hl2 => ?_
 simp [maxLen_val] at hl2
 have F := Fx.nil
 refine ent Tryd.func78 Tryd.ntmps78 Tryd.results78 ?_
 refine rK [0, 1, 2] ?_
 refine W.seqk fun K1 hK1 => ?_
 refine rK [0, 1, 2, 11, 12, 13] ?_
 refine W.block ?_
 refine lpa (α := Nat) [0, 1, 2, 11, 12] [8, 9, 20, 29] [] (fun i => [(13, I i)]) (fun i => []) (fun i => i ≤ a.length ∧ cmpT a b = cmpT (a.drop i) (b.drop i)) (fun i => a.length - i) 0 v0 ?_
 ·
  intro i hI0
  simp only [List.cons_append, List.nil_append]
  try dsimp only at hI0
  obtain ⟨hi, kc⟩ := hI0
  replace F := F.add hi
  refine rK [0, 1, 2, 11, 12, 13, 14] ?_
  refine W.seqk fun K2 hK2 => ?_
  refine it (fun hc1 => ?_) (fun hc1 => ?_)
  ·
   try simp at hc1
   replace F := F.add hc1
   refine W.skip ?_
   refine hK2 _ ?_
   clear hK2 K2
   refine W.seqk fun K3 hK3 => ?_
   refine W.block ?_
   have hia : i < a.length := by omega
   replace F := F.add hia
   refine rK [0, 1, 2, 7, 8, 11, 12, 13] ?_
   refine W.seqk fun K4 hK4 => ?_
   refine rK [0, 1, 2, 7, 8, 11, 12, 13, 21] ?_
   refine it (fun hc2 => ?_) (fun hc2 => ?_)
   ·
    try simp at hc2
    replace F := F.add hc2
    refine rK [6] ?_
    refine W.ret ?_
    refine tr (br (tr (tr (br (tr ?_)))))
    clear hK4 K4 hK3 K3 hK1 K1
    refine er false [] [] ?_
    exact ⟨congrArg I (kc.trans (cmpT_long hia (by omega))).symm, rfl⟩
   ·
    try simp at hc2
    replace F := F.add hc2
    refine W.skip ?_
    refine hK4 _ ?_
    clear hK4 K4
    have hib : i < b.length := by omega
    replace F := F.add hib
    refine rK [0, 1, 2, 8, 9, 11, 12, 13] ?_
    refine W.seqR ?_
    refine oN 3 ?_
    refine oC [] ?_
    refine ct (later_ok a[i] b[i]) ?_
    refine oN 1 ?_
    refine oK [0, 1, 2, 10, 11, 12, 13] ?_
    by_cases hz : cmp1 a[i] b[i] = 0
    ·
     replace F := F.add hz
     refine rK [0, 1, 2, 10, 11, 12, 13, 31] ?_
     refine cF ?_
     refine W.skip ?_
     refine hK3 _ ?_
     clear hK3 K3
     refine rEw ?_
     refine ⟨i + 1, lf0, ?_, v0⟩
     ·
      exact ⟨by omega, kc.trans (cmpT_skip hia hib hz)⟩
    ·
     replace F := F.add hz
     refine rK [0, 1, 2, 10, 11, 12, 13, 31] ?_
     refine cT ?_
     refine rK [6] ?_
     refine W.ret ?_
     refine br (tr (tr (br (tr ?_))))
     clear hK3 K3 hK1 K1
     refine er false [] [] ?_
     exact ⟨congrArg I (kc.trans (cmpT_hit hia hib hz)).symm, rfl⟩
  ·
   try simp at hc1
   replace F := F.add hc1
   refine W.exit ?_
   refine hK1 _ ?_
   clear hK2 K2 hK1 K1
   refine W.seqk fun K5 hK5 => ?_
   refine rK [38] ?_
   refine it (fun hc5 => ?_) (fun hc5 => ?_)
   ·
    try simp at hc5
    replace F := F.add hc5
    refine rK [6] ?_
    refine W.ret ?_
    refine tr ?_
    clear hK5 K5
    refine er false [] [] ?_
    exact ⟨congrArg I (kc.trans ((cmpT_end (by omega) hi).trans (if_pos (by omega)))).symm, rfl⟩
   ·
    try simp at hc5
    replace F := F.add hc5
    refine W.skip ?_
    refine hK5 _ ?_
    clear hK5 K5
    refine rK [6] ?_
    refine W.ret ?_
    refine er false [] [] ?_
    exact ⟨congrArg I (kc.trans ((cmpT_end (by omega) hi).trans (if_neg (by omega)))).symm, rfl⟩
set_option maxHeartbeats 4000000 in
theorem better_ok (a b : Pln) : ACalls Tryd.prog 55 [plnV a, plnV b] [] (fun r o => r = B (betterP a b) ∧ o = []) := by
 refine ACalls.lenA (xs := [tstV a.1, B a.2]) (l := a.1.map T2) (by simp) (by simp) ⟨_, Tryd.func55, by kernel_rfl, by kernel_rfl⟩ fun hl => ?_
 simp [maxLen_val] at hl
 refine ACalls.lenA (xs := [tstV b.1, B b.2]) (l := b.1.map T2) (by simp) (by simp) ⟨_, Tryd.func55, by kernel_rfl, by kernel_rfl⟩ fun hl2 => ?_
 simp [maxLen_val] at hl2
 have F := Fx.nil
 refine ent Tryd.func55 Tryd.ntmps55 Tryd.results55 ?_
 refine rK [2, 3] ?_
 refine W.seqk fun K1 hK1 => ?_
 by_cases ha2 : a.2 = false
 ·
  replace F := F.add ha2
  refine W.seqR ?_
  refine oN 4 ?_
  refine gF ?_
  refine gF ?_
  refine gF ?_
  refine oN 1 ?_
  refine oK [2, 3, 13] ?_
  refine cT ?_
  refine rK [4] ?_
  refine W.ret ?_
  refine tr ?_
  clear hK1 K1
  refine er false [] [] ?_
  exact ⟨congrArg B (by unfold betterP; simp_all), rfl⟩
 ·
  replace F := F.add ha2
  have ha3 : a.2 = true := by simpa using ha2
  replace F := F.add ha3
  by_cases hb2 : b.2 = false
  ·
   replace F := F.add hb2
   refine W.seqR ?_
   refine oN 4 ?_
   refine gT ?_
   refine gT ?_
   refine gT ?_
   refine oN 1 ?_
   refine oK [2, 3, 13] ?_
   refine cT ?_
   refine rK [4] ?_
   refine W.ret ?_
   refine tr ?_
   clear hK1 K1
   refine er false [] [] ?_
   exact ⟨congrArg B (by unfold betterP; simp_all), rfl⟩
  ·
   replace F := F.add hb2
   have hb3 : b.2 = true := by simpa using hb2
   replace F := F.add hb3
   refine W.seqR ?_
   refine oN 4 ?_
   refine gT ?_
   refine gT ?_
   refine gT ?_
   refine oN 1 ?_
   refine oK [2, 3, 13] ?_
   refine cF ?_
   refine W.skip ?_
   refine hK1 _ ?_
   clear hK1 K1
   refine W.seqk fun K2 hK2 => ?_
   refine rK [2, 3, 22] ?_
   refine it (fun hc4 => ?_) (fun hc4 => ?_)
   ·
    try simp at hc4
    replace F := F.add hc4
    refine rK [4] ?_
    refine W.ret ?_
    refine tr ?_
    clear hK2 K2
    refine er false [] [] ?_
    exact ⟨congrArg B (by unfold betterP; rw [if_neg (by simp [ha3, hb3]), if_pos (by omega)]), rfl⟩
   ·
    try simp at hc4
    replace F := F.add hc4
    refine W.skip ?_
    refine hK2 _ ?_
    clear hK2 K2
    refine rK [2, 3, 5] ?_
    refine W.seqR ?_
    refine oN 5 ?_
    refine oC [] ?_
    refine ct (cmpF_ok a.1 b.1) ?_
    refine oN 2 ?_
    refine oK [4] ?_
    refine W.ret ?_
    refine er false [] [] ?_
    exact ⟨congrArg B (by unfold betterP; rw [if_neg (by simp [ha3, hb3]), if_neg (by omega)]), rfl⟩
theorem best_step {l : List Pln} {c : Pln} {i : Nat} (hi : i < l.length) (h : bestP l = bestF c (l.drop i)) : bestP l = bestF (if betterP l[i] c = true then l[i] else c) (l.drop (i + 1)) := by
  rw [h, List.drop_eq_getElem_cons hi, bestF]
theorem best_first {l : List Pln} {i : Nat} (hi : i < l.length) (h : i = 0) : bestP l = bestF l[i] (l.drop (i + 1)) := by
  subst h
  cases l with
  | nil => cases hi
  | cons x xs => rfl
theorem best_end {l : List Pln} {c : Pln} {i : Nat} (hi : l.length ≤ i) (k : i = 0 ∧ c = ([], false) ∨ 0 < i ∧ bestP l = bestF c (l.drop i)) : c = bestP l := by
  rcases k with ⟨rfl, rfl⟩ | ⟨_, k⟩
  · rw [show l = [] from List.length_eq_zero_iff.1 (by omega)]; rfl
  · rw [k, List.drop_of_length_le hi]; rfl
theorem best_go {l : List Pln} {c : Pln} {i : Nat} (hi : i < l.length) (h0 : ¬ i = 0) (k : i = 0 ∧ c = ([], false) ∨ 0 < i ∧ bestP l = bestF c (l.drop i)) : bestP l = bestF (if betterP l[i] c = true then l[i] else c) (l.drop (i + 1)) := by
  rcases k with ⟨k, _⟩ | ⟨_, k⟩
  · exact absurd k h0
  · exact best_step hi k
set_option maxHeartbeats 4000000 in
theorem best_ok (l : List Pln) : ACalls Tryd.prog 54 [.imm (l.map plnV), .clo 55 []] [] (fun r o => r = plnV (bestP l) ∧ o = []) := by
 refine ACalls.len (l := l.map plnV) (by simp) ⟨_, Tryd.func54, by kernel_rfl, by kernel_rfl⟩ fun hl => ?_
 simp [maxLen_val] at hl
 have F := Fx.nil
 refine ent Tryd.func54 Tryd.ntmps54 Tryd.results54 ?_
 refine rK [0, 1, 4] ?_
 refine rK [0, 1, 4, 5] ?_
 refine W.seqk fun K1 hK1 => ?_
 refine W.seqR ?_
 refine WOps.le (Le.immNilO (id := 40) (k := 0) (j := 0) (by simp; rfl)) rfl rfl ?_
 refine oN 3 ?_
 refine oK [1, 4, 5, 8, 9, 10] ?_
 refine W.block ?_
 refine lpa (α := Nat × Pln) [1, 4, 5, 8, 9] [7, 21] [40] (fun x => [(10, I x.1)]) (fun x => [(40, .row false 110 2 [plnV x.2])]) (fun x => x.1 ≤ l.length ∧ (x.1 = 0 ∧ x.2 = ([], false) ∨ 0 < x.1 ∧ bestP l = bestF x.2 (l.drop x.1))) (fun x => l.length - x.1) (0, ([], false)) v0 ?_
 ·
  intro ⟨i, c⟩ hI0
  simp only [List.cons_append, List.nil_append]
  try dsimp only at hI0
  obtain ⟨hi, kc⟩ := hI0
  replace F := F.add hi
  refine rK [1, 4, 5, 8, 9, 10, 11] ?_
  refine W.seqk fun K2 hK2 => ?_
  refine it (fun hc1 => ?_) (fun hc1 => ?_)
  ·
   try simp at hc1
   replace F := F.add hc1
   refine W.skip ?_
   refine hK2 _ ?_
   clear hK2 K2
   refine W.seqk fun K3 hK3 => ?_
   refine W.block ?_
   have hil : i < l.length := by omega
   replace F := F.add hil
   refine rK [1, 4, 5, 6, 7, 8, 9, 10] ?_
   by_cases hi0 : i = 0
   ·
    replace F := F.add hi0
    refine W.seqR ?_
    refine oN 3 ?_
    refine gF ?_
    refine gF ?_
    refine gF ?_
    refine gF ?_
    refine oN 1 ?_
    refine oK [1, 4, 5, 7, 8, 9, 10, 22] ?_
    refine cT ?_
    refine rE ?_
    refine hK3 _ ?_
    clear hK3 K3
    refine rEw ?_
    refine ⟨(i + 1, l[i]), lf0, ?_, v0⟩
    ·
     exact ⟨hil, .inr ⟨Nat.succ_pos _, best_first hil hi0⟩⟩
   ·
    replace F := F.add hi0
    by_cases hbt : betterP l[i] c = true
    ·
     replace F := F.add hbt
     refine W.seqR ?_
     refine oN 3 ?_
     refine gX ?_
     refine gX ?_
     refine gX ?_
     refine gXc ?_
     refine cx (fun hg => by (try simp at hg); exact better_ok l[i] c) ?_
     refine oN 1 ?_
     refine oK [1, 4, 5, 7, 8, 9, 10, 22] ?_
     refine cT ?_
     refine rE ?_
     refine hK3 _ ?_
     clear hK3 K3
     refine rEw ?_
     refine ⟨(i + 1, l[i]), lf0, ?_, v0⟩
     ·
      exact ⟨hil, .inr ⟨Nat.succ_pos _, (best_go hil hi0 kc).trans (by rw [if_pos hbt])⟩⟩
    ·
     replace F := F.add hbt
     refine W.seqR ?_
     refine oN 3 ?_
     refine gX ?_
     refine gX ?_
     refine gX ?_
     refine gXc ?_
     refine cx (fun hg => by (try simp at hg); exact better_ok l[i] c) ?_
     refine oN 1 ?_
     refine oK [1, 4, 5, 7, 8, 9, 10, 22] ?_
     refine cF ?_
     refine W.skip ?_
     refine hK3 _ ?_
     clear hK3 K3
     refine rEw ?_
     refine ⟨(i + 1, c), lf0, ?_, v0⟩
     ·
      exact ⟨hil, .inr ⟨Nat.succ_pos _, (best_go hil hi0 kc).trans (by rw [if_neg hbt])⟩⟩
  ·
   try simp at hc1
   replace F := F.add hc1
   refine W.exit ?_
   refine hK1 _ ?_
   clear hK2 K2 hK1 K1
   refine rK [4] ?_
   refine W.ret ?_
   refine er true [] [] ?_
   rw [← best_end hc1 kc]; exact ⟨rfl, rfl⟩
end Go.Sim
