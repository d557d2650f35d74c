/- What is known better: the law answers true. -/
import Derived.Test.YtfenmmjeppehaaaLx
import Derived.Test.YtfenmmjeppehaaaLp
namespace Go.Sim
open Go.Proofs
set_option maxRecDepth 100000
set_option linter.unusedSimpArgs false
set_option linter.unusedVariables false
attribute [-simp] List.map_set List.map_take List.map_drop
noncomputable def truV (f : Int) (x : Spn) : Int := oneV (fromF (fromF f x.lo x.hi) x.lo x.hi) [x.lo, x.hi, fromV f x.lo x.hi, fromV (fromF f x.lo x.hi) x.lo x.hi]
noncomputable def truF (f : Int) (x : Spn) : Int := oneF (fromF (fromF f x.lo x.hi) x.lo x.hi) [x.lo, x.hi, fromV f x.lo x.hi, fromV (fromF f x.lo x.hi) x.lo x.hi]
theorem truV_range (f : Int) {x : Spn} (h : x.lo ≤ x.hi) : x.lo ≤ truV f x ∧ truV f x ≤ x.hi := by
  have h1 := fromV_range f h
  have h2 := fromV_range (fromF f x.lo x.hi) h
  have h3 := oneV_mem (fromF (fromF f x.lo x.hi) x.lo x.hi) [x.lo, x.hi, fromV f x.lo x.hi, fromV (fromF f x.lo x.hi) x.lo x.hi] (by simp)
  simp only [List.mem_cons, List.not_mem_nil, or_false] at h3
  unfold truV
  omega
set_option maxHeartbeats 4000000 in
theorem True_ok (f : Int) (x : Spn) (h1 : -1000000 ≤ x.lo) (h2 : x.hi ≤ 1000000) (h3 : x.lo ≤ x.hi) : ACalls Try.prog 93 [.ptr 10000 0 0, spnV x] [(10000, die f)] (fun r o => r = I (truV f x) ∧ o = [(10000, die (truF f x))]) := by
 have F := Fx.nil
 replace F := F.add h1 |>.add h2 |>.add h3
 refine ent Try.func93 Try.ntmps93 Try.results93 ?_
 obtain ⟨a, qa⟩ : ∃ a, fromV f x.lo x.hi = a := ⟨_, rfl⟩
 obtain ⟨g1, qg1⟩ : ∃ g, fromF f x.lo x.hi = g := ⟨_, rfl⟩
 obtain ⟨b, qb⟩ : ∃ b, fromV g1 x.lo x.hi = b := ⟨_, rfl⟩
 obtain ⟨g2, qg2⟩ : ∃ g, fromF g1 x.lo x.hi = g := ⟨_, rfl⟩
 have ha := qa
 have hg1 := qg1
 have hb := qb
 have hg2 := qg2
 replace F := F.add ha |>.add hg1 |>.add hb |>.add hg2
 refine rK [0, 3] ?_
 refine wD 18 [(10, [10000]), (16, [10000])] [[], [], [1], [], [3], [], [], [6], [], [8], [8, 9, 6, 7, 5], [], [], [12], [], [14], [5, 7, 6, 9, 8, 10, 14, 15, 12, 13, 11], [11, 13, 12, 15, 14, 16, 5, 7, 6, 9, 8, 10, 3, 4, 1, 2], [2, 1, 4, 3, 10, 8, 9, 6, 7, 5, 16, 14, 15, 12, 13, 11, 17, 0], [0, 17, 11, 13, 12, 15, 14, 16, 5, 7, 6, 9, 8, 10, 3, 4, 1, 2, 18]] ?_
 refine dB [([6, 7, 8, 9, 10, 11, 12, 13, 14, 15, 16, 17, 18, 19, 20, 21, 22], [], [10000, 10000]), ([5, 8, 9, 10, 11, 12, 13, 14, 15, 16, 17, 18, 19, 20, 21], [false], [10000, 10000]), ([5, 8, 9, 10, 11, 12, 13, 14, 15, 16, 17, 18, 19, 20, 21], [false, true], [10000, 10000]), ([5, 6, 7, 10, 11, 12, 13, 14, 15, 16, 17, 18, 19, 20, 21], [false, false, false], [10000, 10000]), ([5, 6, 7, 10, 11, 12, 13, 14, 15, 16, 17, 18, 19, 20, 21], [false, false, false, true], [10000, 10000]), ([5, 6, 7, 8, 9, 11, 12, 13, 14, 16, 17, 18, 19, 20], [false, false, false, false, false], []), ([5, 6, 7, 8, 9, 10, 13, 14, 16, 17, 18, 19, 20], [false, false, false, false, false, false], []), ([5, 6, 7, 8, 9, 10, 13, 14, 16, 17, 18, 19, 20], [false, false, false, false, false, false, true], []), ([5, 6, 7, 8, 9, 10, 11, 12, 16, 17, 18, 19, 20], [false, false, false, false, false, false, false, false], []), ([5, 6, 7, 8, 9, 10, 11, 12, 16, 17, 18, 19, 20], [false, false, false, false, false, false, false, false, true], [])] 8 10 ?_
 refine dC [5, 6, 7, 8, 9, 16, 17, 18, 19, 20] [false, false, false, false, false, true, true, true, true, true] [] [(10000, 10000)] ?_
 refine cd (From_ok _ _ _ (by omega) (by omega) (by omega) (by omega)) ?_
 refine dB [([5, 6, 7, 8, 9, 10, 11, 12, 13, 14, 15, 17, 18, 19, 20], [false, false, false, false, false, false, false, false, false, false, false], [10000]), ([5, 6, 7, 8, 9, 10, 11, 12, 13, 14, 15, 16, 19, 20], [false, false, false, false, false, false, false, false, false, false, false, false], [10000]), ([5, 6, 7, 8, 9, 10, 11, 12, 13, 14, 15, 16, 19, 20], [false, false, false, false, false, false, false, false, false, false, false, false, true], [10000]), ([5, 6, 7, 8, 9, 10, 11, 12, 13, 14, 15, 16, 17, 18], [false, false, false, false, false, false, false, false, false, false, false, false, false, false], [10000]), ([5, 6, 7, 8, 9, 10, 11, 12, 13, 14, 15, 16, 17, 18], [false, false, false, false, false, false, false, false, false, false, false, false, false, false, true], [10000])] 2 16 ?_
 refine dC [5, 6, 7, 8, 9] [false, false, false, false, false, true, true, true, true, true, true, true, true, true, true, true] [] [(10000, 10000)] ?_
 refine cd (From_ok _ _ _ (by omega) (by omega) (by omega) (by omega)) ?_
 refine dB [([5], [false, true, true, true, true, true, true, true, true, true, true, true, true, true, true, true, true], [])] 0 18 ?_
 refine dD ?_
 refine oC [(10000, 10000)] ?_
 refine ct (One_ok g2 [x.lo, x.hi, a, b] (by simp)) ?_
 refine oN 1 ?_
 refine oK [4] ?_
 refine W.ret ?_
 refine er false [] [(10000, 10000)] ?_
 exact ⟨by rw [truV, qg1, qg2, qa, qb], by rw [truF, qg1, qg2, qa, qb]⟩
noncomputable def narV (f : Int) (x : Spn) : Spn := ⟨min (truV f x) (truV (truF f x) x), max (truV f x) (truV (truF f x) x)⟩
noncomputable def narF (f : Int) (x : Spn) : Int := truF (truF f x) x
theorem narV_range (f : Int) {x : Spn} (h : x.lo ≤ x.hi) : x.lo ≤ (narV f x).lo ∧ (narV f x).lo ≤ (narV f x).hi ∧ (narV f x).hi ≤ x.hi := by
  have h1 := truV_range f h
  have h2 := truV_range (truF f x) h
  unfold narV
  dsimp only
  omega
set_option maxHeartbeats 4000000 in
theorem Narrow_ok (f : Int) (x : Spn) (h1 : -1000000 ≤ x.lo) (h2 : x.hi ≤ 1000000) (h3 : x.lo ≤ x.hi) : ACalls Try.prog 56 [.ptr 10000 0 0, spnV x] [(10000, die f)] (fun r o => r = .agg [I (narV f x).lo, I (narV f x).hi] ∧ o = [(10000, die (narF f x))]) := by
 have F := Fx.nil
 replace F := F.add h1 |>.add h2 |>.add h3
 refine ent Try.func56 Try.ntmps56 Try.results56 ?_
 refine rK [0, 3, 4] ?_
 refine wD 5 [(2, [10000])] [[], [], [1, 0], [], [], [0, 1, 2, 4, 3], [3, 4, 5, 0, 1, 2], [6, 3, 4, 2, 1, 0, 5]] ?_
 refine dB [([8, 10, 11], [], []), ([7, 10, 11], [false], [])] 3 2 ?_
 refine dC [10, 11] [true, true] [] [(10000, 10000)] ?_
 refine cd (True_ok f x (by omega) (by omega) (by omega)) ?_
 refine dB [([7, 8, 9, 11], [false, false, false], [10000]), ([7, 8, 9, 10], [false, false, false, false], [10000])] 0 5 ?_
 refine dD ?_
 refine oC [(10000, 10000)] ?_
 refine ct (True_ok (truF f x) x (by omega) (by omega) (by omega)) ?_
 refine oN 2 ?_
 refine oK [4, 5, 6] ?_
 refine rK [4] ?_
 refine W.ret ?_
 refine er false [] [(10000, 10000)] ?_
 refine ⟨?_, rfl⟩
 unfold narV
 dsimp only
 rw [show (if truV (truF f x) x < truV f x then truV (truF f x) x else truV f x) = min (truV f x) (truV (truF f x) x) by split <;> omega, show (if truV f x < truV (truF f x) x then truV (truF f x) x else truV f x) = max (truV f x) (truV (truF f x) x) by split <;> omega]
set_option maxHeartbeats 4000000 in
theorem Within_ok (x y : Spn) : ACalls Try.prog 57 [spnV x, spnV y] [] (fun r o => r = B (decide (y.lo ≤ x.lo ∧ x.hi ≤ y.hi)) ∧ o = []) := by
 have F := Fx.nil
 refine ent Try.func57 Try.ntmps57 Try.results57 ?_
 refine rK [2, 3] ?_
 refine W.seqR ?_
 refine oN 6 ?_
 refine gX ?_
 refine gX ?_
 refine gX ?_
 refine gX ?_
 refine gX ?_
 refine oN 2 ?_
 refine oK [4] ?_
 refine W.ret ?_
 refine er false [] [] ?_
 refine ⟨?_, rfl⟩
 by_cases h1 : y.lo ≤ x.lo <;> by_cases h2 : x.hi ≤ y.hi <;> simp [h1, h2]
theorem atE_at {c : Cel} (hv : ValidC c) {b : Int} {t : Int} (h1 : 0 ≤ b ∧ b < c.boxes.length) (h2 : 0 ≤ t ∧ t ≤ 239) : atE c b t = 0 ∧ atS c b t = iceS c b.toNat t.toNat := by
  have e : atE c b t = 0 := by rw [atE, if_neg (fun k => k (checkC_zero.2 hv)), if_neg (by omega), if_neg (by omega)]
  exact ⟨e, by rw [atS, if_pos e]⟩
/-- narrower, and well -/
def NarB (b b' : CBox) : Prop := b'.room = b.room ∧ (b.ice.lo ≤ b'.ice.lo ∧ b'.ice.lo ≤ b'.ice.hi ∧ b'.ice.hi ≤ b.ice.hi) ∧ (b.melt.lo ≤ b'.melt.lo ∧ b'.melt.lo ≤ b'.melt.hi ∧ b'.melt.hi ≤ b.melt.hi) ∧ (b.cld.lo ≤ b'.cld.lo ∧ b'.cld.lo ≤ b'.cld.hi ∧ b'.cld.hi ≤ b.cld.hi) ∧ (b.wrm.lo ≤ b'.wrm.lo ∧ b'.wrm.lo ≤ b'.wrm.hi ∧ b'.wrm.hi ≤ b.wrm.hi)
theorem NarB.ok {b b' : CBox} (h : NarB b b') (k : BoxOk b) : BoxOk b' := by
  obtain ⟨h1, h2, h3, h4, h5⟩ := h
  have k1 := k.room; have k2 := k.ice; have k3 := k.melt; have k4 := k.cld; have k5 := k.wrm; have k6 := k.clash
  exact ⟨by omega, by omega, by omega, by omega, by omega, by omega⟩
theorem fresh_narrow {c m : Cel} {l : CLot} (hv : ValidC c) (hm : ValidC m) (r : NarrowR c m) (hl : LotOk c.boxes.length l) (hl2 : LotOk m.boxes.length l) {h : Int} (h1 : l.born ≤ h) (h2 : h ≤ 240) (ho : freshV c l h ≠ 3) : freshV m l h = freshV c l h := by
  obtain ⟨a1, a2⟩ := lotE_cong (m := c) hv hl h1 h2
  obtain ⟨b1, b2⟩ := lotE_cong (m := c) hm hl2 h1 h2
  have hn := r.lost hv hm hl (h - l.born).toNat
  have hc := hn.1
  have hd := hn.2
  have e1 : freshV c l h = verd (decide ((lostS c l (h - l.born).toNat).hi ≤ l.keeps)) (decide ((lostS c l (h - l.born).toNat).lo ≤ l.keeps)) := by rw [freshV, if_pos a1, a2]
  have e2 : freshV m l h = verd (decide ((lostS m l (h - l.born).toNat).hi ≤ l.keeps)) (decide ((lostS m l (h - l.born).toNat).lo ≤ l.keeps)) := by rw [freshV, if_pos b1, b2]
  rw [e1] at ho ⊢
  rw [e2]
  refine verd_narrow (fun e => ?_) (fun e => ?_) (fun e => ?_) ho
  · simp only [decide_eq_true_eq] at e ⊢; omega
  · simp only [decide_eq_true_eq] at e ⊢; omega
  · simp only [decide_eq_true_eq] at e ⊢
    have : ∀ k, (lostS m l k).lo ≤ (lostS m l k).hi := fun k => by
      induction k with
      | zero => exact Int.le_refl _
      | succ k ih =>
        have q : (airS m l (l.born + k)).lo ≤ (airS m l (l.born + k)).hi := by
          cases e : inBox l.stays (l.born + k) with
          | none => rw [airS_out e]; exact hm.hall.2.1
          | some b =>
            have hb := (hl2.inBox e).2.1
            have hk := hm.box hb
            have g1 := hk.cld; have g2 := hk.wrm; have g3 := hk.clash
            have g4 := iceS_le hm hb (l.born + (k : Int)).toNat
            rw [airS_in e, airB_eq (iceS_le hm hb _)]
            refine ite_le (fun _ _ => ?_) (fun _ _ => ?_) (fun _ _ => ?_) (fun _ _ => ?_) <;> omega
        have := lossR_mono hm.rats q
        simp only [lostS]; omega
    have := this (h - l.born).toNat
    omega
theorem cold_narrow {c m : Cel} (hm : ValidC m) (r : NarrowR c m) {b t : Nat} (hb : b < c.boxes.length) (ho : coldV (iceS c b t) ≠ 3) : coldV (iceS m b t) = coldV (iceS c b t) := by
  have hn := r.ice hb t
  have h1 := hn.1
  have h2 := hn.2
  have h3 := iceS_le hm (b := b) (by rw [r.len]; exact hb) t
  unfold coldV at ho ⊢
  refine verd_narrow (fun e => ?_) (fun e => ?_) (fun e => ?_) ho <;> simp only [decide_eq_true_eq] at e ⊢ <;> omega
end Go.Sim
