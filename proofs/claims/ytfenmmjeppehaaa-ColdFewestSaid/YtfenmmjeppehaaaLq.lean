/- Scoops by the reference: sums, whether a box stays cold, the cellar with the scoops, the visits. -/
import Derived.Test.YtfenmmjeppehaaaLd
import Derived.Test.YtfenmmjeppehaaaLh
namespace Go.Sim
open Go.Proofs
set_option maxRecDepth 100000
set_option linter.unusedSimpArgs false
set_option linter.unusedVariables false
attribute [-simp] List.map_set List.map_take List.map_drop
theorem sumI_take {l : List Int} {i : Nat} (hi : i < l.length) : sumI (l.take (i + 1)) = sumI (l.take i) + l[i] := by
  rw [List.take_succ_eq_append_getElem hi, sumI_app, sumI_cons, sumI_nil]; omega
theorem sumI_in {l : List Int} (h : ∀ x ∈ l, 0 ≤ x ∧ x ≤ 5) : 0 ≤ sumI l ∧ sumI l ≤ 5 * (l.length : Int) := by
  induction l with
  | nil => exact ⟨Int.le_refl _, Int.le_refl _⟩
  | cons x l ih =>
    have h1 := ih fun y hy => h y (by simp [hy])
    have h2 := h x (by simp)
    rw [sumI_cons, List.length_cons]; omega
set_option maxHeartbeats 4000000 in
theorem rsum_ok (l : List Int) (h6 : l.length ≤ 100) (h5 : ∀ x ∈ l, 0 ≤ x ∧ x ≤ 5) : ACalls Try.prog 101 [ints l] [] (fun r o => r = I (sumI l) ∧ o = []) := by
 have F := Fx.nil
 replace F := F.add h6
 refine ent Try.func101 Try.ntmps101 Try.results101 ?_
 refine rK [0] ?_
 refine rK [0, 3] ?_
 refine W.seqk fun K1 hK1 => ?_
 refine rK [0, 3, 4] ?_
 refine W.block ?_
 refine lp (α := Nat) [0] [7] [] (fun i => [(4, I i), (3, I (sumI (l.take i)))]) (fun i => []) (fun i => i ≤ l.length) (fun i => l.length - i) 0 ?_ ?_ v0 ?_
 ·
  try (simp [Fx.get F])
  all_goals (
   rfl
  )
 ·
  exact v1
 ·
  intro i hI0
  simp only [List.cons_append, List.nil_append]
  try dsimp only at hI0
  replace F := F.add hI0
  refine W.seqk fun K2 hK2 => ?_
  refine rK [0, 3, 4, 8] ?_
  refine it (fun hc1 => ?_) (fun hc1 => ?_)
  ·
   try simp at hc1
   replace F := F.add hc1
   refine W.skip ?_
   refine hK2 _ ?_
   clear hK2 K2
   refine W.seqk fun K3 hK3 => ?_
   refine W.block ?_
   have hil : i < l.length := by omega
   have qs1 := sumI_in (l := l.take i) fun x hx => h5 x (List.mem_of_mem_take hx)
   have qs2 := h5 _ (List.getElem_mem hil)
   have qtl : (l.take i).length ≤ 100 := by rw [List.length_take]; omega
   have qst := sumI_take hil
   replace F := F.add hil
   refine rEw ?_
   refine hK3 _ ?_
   clear hK3 K3
   refine rEw ?_
   refine ⟨i + 1, lf ?_ ?_, v0, v0⟩
   ·
    try (simp [Fx.get F])
    all_goals (
     first | exact ⟨by omega, by rw [qst]⟩ | (rw [qst]; done) | omega | skip
    )
   ·
    exact v1
  ·
   try simp at hc1
   replace F := F.add hc1
   refine W.exit ?_
   refine hK1 _ ?_
   clear hK2 K2 hK1 K1
   refine rK [2] ?_
   refine W.ret ?_
   refine er false [] [] ?_
   exact ⟨congrArg I (by rw [List.take_of_length_le (by omega)]), rfl⟩
theorem coldTo_no {c : Cel} {b k : Nat} {u : Int} (hk : (k : Int) < u) (h : iceLo c b k = 0) : coldTo c b u = false := by
  rw [coldTo, List.all_eq_false]
  exact ⟨k, List.mem_range.2 (by omega), by rw [h]; decide⟩
theorem coldTo_yes {c : Cel} {b : Nat} {u : Nat} {i : Nat} (hi : u ≤ i) (h : ∀ k, k < i → 0 < iceLo c b k) : coldTo c b u = true := by
  rw [coldTo, List.all_eq_true]
  intro k hk
  have := List.mem_range.1 hk
  exact decide_eq_true (h k (by omega))
set_option maxHeartbeats 4000000 in
theorem rLasts_ok (c : Cel) (hv : IceC c) (b : Nat) (hb : b < c.boxes.length) (u : Nat) (hu : u ≤ 240) : ACalls Try.prog 102 [celV c, I b, I u] [] (fun r o => r = B (coldTo c b u) ∧ o = []) := by
 refine ACalls.lenA (xs := [I c.hall.lo, I c.hall.hi, boxesV c.boxes, filsV c.fils, ratsV c.rats]) (l := c.boxes.map B9) (by simp) (by simp) ⟨_, Try.func102, by kernel_rfl, by kernel_rfl⟩ fun hl1 => ?_
 simp [maxLen_val] at hl1
 have F := Fx.nil
 replace F := F.add hb |>.add hu
 refine ent Try.func102 Try.ntmps102 Try.results102 ?_
 have qk : BoxOk c.boxes[b] := hv.bx _ (List.getElem_mem hb)
 have qr := qk.room
 have qi := qk.ice
 have qm := qk.melt
 have hbi : (b : Int) < c.boxes.length := by omega
 have e1 : ∀ h : Nat, h < 240 → fallN (nth c.boxes b).room b c.fils (fun k => nth (same240 c.boxes[b].melt.hi) k) c.boxes[b].ice.lo h = iceLo c b h := fun h hh => by
   rw [iceLo, nth_get hb]; exact fallN_congr fun k hk => same240_nth (by omega)
 replace F := F.add hbi
 refine rK [1, 2, 3] ?_
 refine W.seqk fun K1 hK1 => ?_
 refine rK [1, 2, 3, 7] ?_
 refine W.block ?_
 refine lpa (α := Nat) [1, 2, 3] [29, 31] [] (fun i => [(7, I i)]) (fun i => []) (fun i => i ≤ u ∧ ∀ k, k < i → 0 < iceLo c b k) (fun i => u - i) 0 v0 ?_
 ·
  intro i hI0
  simp only [List.cons_append, List.nil_append]
  try dsimp only at hI0
  obtain ⟨hi, hm1⟩ := hI0
  replace F := F.add hi
  refine W.seqk fun K2 hK2 => ?_
  refine rK [1, 2, 3, 7, 10] ?_
  refine it (fun hc1 => ?_) (fun hc1 => ?_)
  ·
   try simp at hc1
   replace F := F.add hc1
   refine W.skip ?_
   refine hK2 _ ?_
   clear hK2 K2
   refine W.seqk fun K3 hK3 => ?_
   refine W.block ?_
   have hiu : i < u := by omega
   have he1 := e1 i (by omega)
   have qin := (iceIn hv hb i).1
   replace F := F.add hiu |>.add he1
   refine wD 18 [] [[], [], [], [2], [], [4, 2, 3], [3, 2, 4, 5], [5, 4, 2, 3, 6], [6, 3, 2, 4, 5, 7], [], [9], [], [11, 9, 10], [10, 9, 11, 12], [12, 11, 9, 10, 13], [13, 10, 9, 11, 12, 14], [14, 12, 11, 9, 10, 13, 15], [], [17, 15, 13, 10, 9, 11, 12, 14, 16, 7, 5, 4, 2, 3, 6, 8, 1, 0], [0, 1, 8, 6, 3, 2, 4, 5, 7, 16, 14, 12, 11, 9, 10, 13, 15, 17, 18]] ?_
   refine dB [([14, 15, 16, 17, 18, 19, 20, 21, 22, 23, 24, 25, 26, 27, 28, 29, 30], [], []), ([13, 15, 16, 17, 18, 19, 20, 21, 22, 23, 24, 25, 26, 27, 28, 29, 30], [false], []), ([13, 14, 17, 22, 23, 24, 25, 26, 27, 28, 29, 30], [false, false], []), ([13, 14, 17, 22, 23, 24, 25, 26, 27, 28, 29, 30], [false, false, true], []), ([13, 14, 15, 16, 22, 23, 24, 25, 26, 27, 28, 29, 30], [false, false, false, false], []), ([13, 14, 22, 23, 24, 25, 26, 27, 28, 29, 30], [false, false, true, true, true], []), ([13, 14, 22, 23, 24, 25, 26, 27, 28, 29, 30], [false, false, true, true, true, true], []), ([13, 14, 22, 23, 24, 25, 26, 27, 28, 29, 30], [false, false, true, true, true, true, true], []), ([13, 14, 22, 23, 24, 25, 26, 27, 28, 29, 30], [false, false, true, true, true, true, true, true], []), ([13, 14, 15, 16, 17, 18, 19, 20, 21, 24, 30], [false, false, false, false, false, false, false, false, false], []), ([13, 14, 15, 16, 17, 18, 19, 20, 21, 24, 30], [false, false, false, false, false, false, false, false, false, true], []), ([13, 14, 15, 16, 17, 18, 19, 20, 21, 22, 23, 30], [false, false, false, false, false, false, false, false, false, false, false], []), ([13, 14, 15, 16, 17, 18, 19, 20, 21, 30], [false, false, false, false, false, false, false, false, false, true, true, true], []), ([13, 14, 15, 16, 17, 18, 19, 20, 21, 30], [false, false, false, false, false, false, false, false, false, true, true, true, true], []), ([13, 14, 15, 16, 17, 18, 19, 20, 21, 30], [false, false, false, false, false, false, false, false, false, true, true, true, true, true], []), ([13, 14, 15, 16, 17, 18, 19, 20, 21, 30], [false, false, false, false, false, false, false, false, false, true, true, true, true, true, true], [])] 2 16 ?_
   refine dC [13, 14, 15, 16, 17, 18, 19, 20, 21, 30] [false, false, false, false, false, false, false, false, false, true, true, true, true, true, true, true] [] [] ?_
   refine cd (same_imm _) ?_
   refine dB [([13, 14, 15, 16, 17, 18, 19, 20, 21, 22, 23, 24, 25, 26, 27, 28, 29], [false, false, false, false, false, false, false, false, false, false, false, false, false, false, false, false, false], [])] 0 18 ?_
   refine dD ?_
   refine oC [] ?_
   refine ct (Fall_ok c hv b hb c.boxes[b].ice.lo (by omega) (same240 c.boxes[b].melt.hi) (fun y hy => by rw [same240_mem hy]; omega) i (by rw [same240_len]; omega) (by rw [same240_len]; omega)) ?_
   refine oN 1 ?_
   refine oK [1, 2, 3, 7, 32] ?_
   refine it (fun hc2 => ?_) (fun hc2 => ?_)
   ·
    try simp at hc2
    replace F := F.add hc2
    refine rK [6] ?_
    refine W.ret ?_
    refine br (tr (tr (br (tr ?_))))
    clear hK3 K3 hK1 K1
    refine er false [] [] ?_
    first
    | (exfalso; omega)
    | exact ⟨congrArg B (coldTo_yes (by omega) hm1).symm, rfl⟩
    | exact ⟨congrArg B (coldTo_no (k := i) (by omega) (by omega)).symm, rfl⟩
   ·
    try simp at hc2
    replace F := F.add hc2
    refine W.skip ?_
    refine hK3 _ ?_
    clear hK3 K3
    refine rEw ?_
    refine ⟨i + 1, lf0, ?_, v0⟩
    ·
     refine ⟨by omega, fun k hk => ?_⟩
     by_cases e : k = i
     · rw [e]; omega
     · exact hm1 k (by omega)
  ·
   try simp at hc1
   replace F := F.add hc1
   refine W.exit ?_
   refine hK1 _ ?_
   clear hK2 K2 hK1 K1
   refine rK [6] ?_
   refine W.ret ?_
   refine er false [] [] ?_
   first
   | (exfalso; omega)
   | exact ⟨congrArg B (coldTo_yes (by omega) hm1).symm, rfl⟩
   | exact ⟨congrArg B (coldTo_no (k := i) (by omega) (by omega)).symm, rfl⟩
theorem mergeF_take {b g v n : Int} {vs sc : List Int} {f : Fil} {fl : List Fil} (h : f.hour ≤ v) : mergeF b g (v :: vs) (n :: sc) (f :: fl) = f :: mergeF b g (v :: vs) (n :: sc) fl := by
  rw [mergeF, mergeF, List.takeWhile_cons_of_pos (by simpa using h), List.dropWhile_cons_of_pos (by simpa using h)]; rfl
theorem mergeF_stop {b g v n : Int} {vs sc : List Int} {fl : List Fil} (h : ∀ f ∈ fl.head?, v < f.hour) : mergeF b g (v :: vs) (n :: sc) fl = List.replicate n.toNat ⟨b, v, g⟩ ++ mergeF b g vs sc fl := by
  cases fl with
  | nil => rw [mergeF]; rfl
  | cons f fl =>
    have := h f (by simp)
    rw [mergeF, List.takeWhile_cons_of_neg (by simpa using this), List.dropWhile_cons_of_neg (by simpa using this)]; rfl
theorem mergeF_end {b g : Int} {vs sc : List Int} {fl : List Fil} (h : vs = []) : mergeF b g vs sc fl = fl := by
  subst h; cases sc <;> simp [mergeF]
theorem map_F3_snoc {L : List Fil} {f : Fil} : L.map F3 ++ [.agg [I f.box, I f.hour, I f.grams]] = (L ++ [f]).map F3 := by simp [F3]
set_option maxHeartbeats 4000000 in
theorem rScooped_ok (c : Cel) (hv : ValidC c) (b : Nat) (vs sc : List Int) (hvl : vs.length ≤ 6) (hsl : sc.length = vs.length) (hs : ∀ n ∈ sc, 0 ≤ n ∧ n ≤ 5) (g : Int) : ACalls Try.prog 92 [celV c, I b, ints vs, ints sc, I g] [] (fun r o => r = celV (scooped c b g vs sc) ∧ o = []) := by
 refine ACalls.lenA (xs := [I c.hall.lo, I c.hall.hi, boxesV c.boxes, filsV c.fils, ratsV c.rats]) (l := c.fils.map F3) (by simp) (by simp) ⟨_, Try.func92, by kernel_rfl, by kernel_rfl⟩ fun hl2 => ?_
 simp [maxLen_val] at hl2
 have F := Fx.nil
 replace F := F.add hvl |>.add hsl
 refine ent Try.func92 Try.ntmps92 Try.results92 ?_
 obtain ⟨T, qT⟩ : ∃ T, T = mergeF b g vs sc c.fils := ⟨_, rfl⟩
 have hTl : T.length ≤ 50 := by
   have h1 := mergeF_len (b := b) (grams := g) (vs := vs) (fl := c.fils) fun n hn => (hs n hn).2
   have h2 := hv.f20
   rw [qT]; omega
 have hfl := hv.f20
 replace F := F.add hTl |>.add hfl
 refine rK [1, 2, 3, 4, 5, 10] ?_
 refine rK [1, 2, 3, 4, 5, 10, 11] ?_
 refine rK [1, 2, 3, 4, 5, 10, 11, 12] ?_
 refine W.seqk fun K1 hK1 => ?_
 refine rK [1, 2, 3, 4, 5, 10, 11, 12, 13] ?_
 refine W.block ?_
 refine sn 11 9000 105 3 ?_
 refine lpa (α := Nat × Nat × List Fil) [1, 2, 3, 4, 5, 10] [17, 24, 45, 46, 65, 66] [9000] (fun x => [(13, I x.1), (12, I x.2.1), (11, .own 9000 0 x.2.2.length)]) (fun x => [(9000, .row true 105 3 (x.2.2.map F3))]) (fun x => x.1 ≤ vs.length ∧ x.2.1 ≤ c.fils.length ∧ x.2.2.length ≤ 50 ∧ T = x.2.2 ++ mergeF b g (vs.drop x.1) (sc.drop x.1) (c.fils.drop x.2.1)) (fun x => vs.length - x.1) (0, 0, []) ?_ ?_
 ·
  first | exact ⟨Nat.zero_le _, Nat.zero_le _, Nat.zero_le _, qT⟩ | exact ⟨by omega, by omega, qTL⟩ | exact ⟨by omega, by omega, qTL3⟩
 ·
  intro ⟨i, p, L⟩ hI0
  simp only [List.cons_append, List.nil_append]
  try dsimp only at hI0
  obtain ⟨hi, hp, hL, qTL⟩ := hI0
  replace F := F.add hi |>.add hp |>.add hL
  refine W.seqk fun K2 hK2 => ?_
  refine rK [1, 2, 3, 4, 5, 10, 11, 12, 13, 18] ?_
  refine it (fun hc1 => ?_) (fun hc1 => ?_)
  ·
   try simp at hc1
   replace F := F.add hc1
   refine W.skip ?_
   refine hK2 _ ?_
   clear hK2 K2
   refine W.seqk fun K3 hK3 => ?_
   refine W.block ?_
   refine W.seqk fun K4 hK4 => ?_
   refine W.block ?_
   have hiv : i < vs.length := by omega
   have his : i < sc.length := by omega
   obtain ⟨v, qvv⟩ : ∃ v, v = vs[i] := ⟨_, rfl⟩
   have hvv := qvv.symm
   obtain ⟨m, qmm⟩ : ∃ m : Nat, sc[i] = (m : Int) := ⟨sc[i].toNat, by have := hs _ (List.getElem_mem his); omega⟩
   have hmm2 := qmm
   have hm5 : m ≤ 5 := by have := hs _ (List.getElem_mem his); omega
   have qdv : vs.drop i = v :: vs.drop (i + 1) := by rw [List.drop_eq_getElem_cons hiv, ← qvv]
   have qds : sc.drop i = (m : Int) :: sc.drop (i + 1) := by rw [List.drop_eq_getElem_cons his, qmm]
   rw [qdv, qds] at qTL
   replace F := F.add hiv |>.add his |>.add hvv |>.add hmm2 |>.add hm5
   refine lpa (α := Nat × List Fil) [1, 2, 3, 4, 5, 10, 13] [24, 45, 46] [9000] (fun x => [(12, I x.1), (11, .own 9000 0 x.2.length)]) (fun x => [(9000, .row true 105 3 (x.2.map F3))]) (fun x => x.1 ≤ c.fils.length ∧ x.2.length ≤ 50 ∧ T = x.2 ++ mergeF b g (v :: vs.drop (i + 1)) ((m : Int) :: sc.drop (i + 1)) (c.fils.drop x.1)) (fun x => c.fils.length - x.1) (p, L) ?_ ?_
   ·
    first | exact ⟨Nat.zero_le _, Nat.zero_le _, Nat.zero_le _, qT⟩ | exact ⟨by omega, by omega, qTL⟩ | exact ⟨by omega, by omega, qTL3⟩
   ·
    intro ⟨p2, L2⟩ hI1
    simp only [List.cons_append, List.nil_append]
    try dsimp only at hI1
    obtain ⟨hp2, hL2, qTL2⟩ := hI1
    replace F := F.add hp2 |>.add hL2
    refine W.seqk fun K5 hK5 => ?_
    refine wD 16 [] [[], [], [1], [1, 2], [2, 1, 3, 0], [0, 3, 1, 2, 4], [4, 2, 1, 3, 0, 5], [5, 0, 3, 1, 2, 4, 6], [4, 2, 1, 3, 0, 5], [8, 6, 4, 2, 1, 3, 0, 5, 7], [7, 5, 0, 3, 1, 2, 4, 6, 8, 9], [9, 8, 6, 4, 2, 1, 3, 0, 5, 7, 10], [4, 2, 1, 3, 0, 5], [4, 2, 1, 3, 0, 5], [13, 5, 0, 3, 1, 2, 4, 12], [12, 4, 2, 1, 3, 0, 5, 13, 14], [14, 13, 12, 15, 10, 7, 5, 0, 3, 1, 2, 4, 6, 8, 9, 11], [11, 9, 8, 6, 7, 10, 15, 12, 13, 14, 16, 4, 2, 1, 3, 0, 5]] ?_
    refine dB [([22, 23, 24], [], []), ([21], [false], []), ([21], [false, true], []), ([21], [false, true, true], []), ([], [true, true, true, true], []), ([], [true, true, true, true, true], [])] 10 6 ?_
    refine dX [29, 33, 34, 35, 36] [true, true, true, true, true, true] [] ?_
    refine dX [29, 33, 34, 35, 36] [true, true, true, true, true, true, true] [] ?_
    refine dX [27, 28, 33, 34, 35, 36] [true, true, true, true, true, true, false, false] [] ?_
    refine dX [33, 34, 35, 36] [true, true, true, true, true, true, true, true, true] [] ?_
    refine dX [33, 34, 35, 36] [true, true, true, true, true, true, true, true, true, true] [] ?_
    refine dX [33, 34, 35, 36] [true, true, true, true, true, true, true, true, true, true, true] [] ?_
    refine dX [27, 28, 29, 30, 31, 32, 34] [true, true, true, true, true, true, false, false, false, false, false, false] [] ?_
    refine dX [27, 28, 29, 30, 31, 32, 33] [true, true, true, true, true, true, false, false, false, false, false, false, false] [] ?_
    refine dX [27, 28, 29, 30, 31, 32] [true, true, true, true, true, true, false, false, false, false, false, false, true, true] [] ?_
    refine dX [27, 28, 29, 30, 31, 32] [true, true, true, true, true, true, false, false, false, false, false, false, true, true, true] [] ?_
    refine dD ?_
    refine gX ?_
    refine oN 1 ?_
    refine oK [1, 2, 3, 4, 5, 10, 11, 12, 13, 38] ?_
    refine it (fun hc2 => ?_) (fun hc2 => ?_)
    ·
     try simp at hc2
     replace F := F.add hc2
     refine W.skip ?_
     refine hK5 _ ?_
     clear hK5 K5
     refine W.block ?_
     have hpf : p2 < c.fils.length := by omega
     have qc7 := (show p2 < c.fils.length ∧ (nth c.fils p2).hour ≤ nth vs i by assumption).2
     rw [nth_get hpf, nth_get hiv, ← qvv] at qc7
     have hc8 := qc7
     have hpl : L2.length + 1 ≤ 50 := by
       have h1 := congrArg List.length qTL2
       rw [List.drop_eq_getElem_cons hpf, mergeF_take hc8, List.length_append, List.length_cons] at h1
       omega
     replace F := F.add hpf |>.add hc8 |>.add hpl
     refine rKw [1, 2, 3, 4, 5, 10, 11, 12, 13] ?_
     refine rEw ?_
     refine bn ?_
     refine ⟨(p2 + 1, L2 ++ [c.fils[p2]]), lf0, ?_, v0⟩
     ·
      refine ⟨by show p2 + 1 ≤ _; omega, by show (L2 ++ [c.fils[p2]]).length ≤ 50; rw [List.length_append]; exact hpl, ?_⟩
      show T = (L2 ++ [c.fils[p2]]) ++ mergeF b g (v :: vs.drop (i + 1)) ((m : Int) :: sc.drop (i + 1)) (c.fils.drop (p2 + 1))
      rw [qTL2, List.drop_eq_getElem_cons hpf, mergeF_take hc8, List.append_assoc]; rfl
    ·
     try simp at hc2
     replace F := F.add hc2
     refine W.exit ?_
     refine hK4 _ ?_
     clear hK5 K5 hK4 K4
     have qTL3 : T = L2 ++ (List.replicate m ⟨b, v, g⟩ ++ mergeF b g (vs.drop (i + 1)) (sc.drop (i + 1)) (c.fils.drop p2)) := by
       rw [qTL2, mergeF_stop, Int.toNat_natCast]
       intro f hf
       rw [List.head?_drop] at hf
       by_cases hpf : p2 < c.fils.length
       · rw [List.getElem?_eq_getElem hpf] at hf
         cases hf
         have q9 := (show p2 < c.fils.length → nth vs i < (nth c.fils p2).hour by assumption) hpf
         rw [nth_get hpf, nth_get hiv, ← qvv] at q9
         exact q9
       · rw [List.getElem?_eq_none (by omega)] at hf; cases hf
     refine rK [1, 2, 3, 4, 5, 10, 11, 12, 13, 14] ?_
     refine W.block ?_
     refine lpa (α := Nat × List Fil) [1, 2, 3, 4, 5, 10, 12, 13] [65, 66] [9000] (fun x => [(14, I x.1), (11, .own 9000 0 x.2.length)]) (fun x => [(9000, .row true 105 3 (x.2.map F3))]) (fun x => x.1 ≤ m ∧ x.2.length ≤ 50 ∧ T = x.2 ++ (List.replicate (m - x.1) ⟨b, v, g⟩ ++ mergeF b g (vs.drop (i + 1)) (sc.drop (i + 1)) (c.fils.drop p2))) (fun x => m - x.1) (0, L2) ?_ ?_
     ·
      first | exact ⟨Nat.zero_le _, Nat.zero_le _, Nat.zero_le _, qT⟩ | exact ⟨by omega, by omega, qTL⟩ | exact ⟨by omega, by omega, qTL3⟩
     ·
      intro ⟨k, L3⟩ hI2
      simp only [List.cons_append, List.nil_append]
      try dsimp only at hI2
      obtain ⟨hk, hL3, qTL4⟩ := hI2
      replace F := F.add hk |>.add hL3
      refine W.seqk fun K6 hK6 => ?_
      refine rK [1, 2, 3, 4, 5, 10, 11, 12, 13, 14, 54] ?_
      refine it (fun hc3 => ?_) (fun hc3 => ?_)
      ·
       try simp at hc3
       replace F := F.add hc3
       refine W.skip ?_
       refine hK6 _ ?_
       clear hK6 K6
       refine W.seqk fun K7 hK7 => ?_
       refine W.block ?_
       have hkm : k < m := by omega
       have qTL5 : T = (L3 ++ [⟨b, v, g⟩]) ++ (List.replicate (m - (k + 1)) ⟨b, v, g⟩ ++ mergeF b g (vs.drop (i + 1)) (sc.drop (i + 1)) (c.fils.drop p2)) := by
         rw [qTL4, show m - k = (m - (k + 1)) + 1 by omega, List.replicate_succ, List.cons_append, List.append_assoc]; rfl
       have hpl3 : L3.length + 1 ≤ 50 := by
         have h1 := congrArg List.length qTL5
         rw [List.length_append, List.length_append, List.length_cons, List.length_nil] at h1
         omega
       replace F := F.add hkm |>.add hpl3
       refine rEw ?_
       refine hK7 _ ?_
       clear hK7 K7
       refine rEw ?_
       refine ⟨(k + 1, L3 ++ [⟨b, v, g⟩]), lf0, ?_, v0⟩
       ·
        exact ⟨by show k + 1 ≤ m; omega, by show (L3 ++ [_]).length ≤ 50; rw [List.length_append]; exact hpl3, qTL5⟩
      ·
       try simp at hc3
       replace F := F.add hc3
       refine W.exit ?_
       refine hK3 _ ?_
       clear hK6 K6 hK3 K3
       refine rEw ?_
       refine ⟨(i + 1, p2, L3), lf0, ?_, v0⟩
       ·
        refine ⟨by show i + 1 ≤ _; omega, hp2, hL3, ?_⟩
        show T = L3 ++ mergeF b g (vs.drop (i + 1)) (sc.drop (i + 1)) (c.fils.drop p2)
        rw [qTL4, show m - k = 0 by omega]; rfl
  ·
   try simp at hc1
   replace F := F.add hc1
   refine W.exit ?_
   refine hK1 _ ?_
   clear hK2 K2 hK1 K1
   refine rKw [5, 10] ?_
   refine rK [10] ?_
   refine W.ret ?_
   refine er false [9000] [] ?_
   rw [mergeF_end (by rw [List.drop_of_length_le (by omega)])] at qTL
   refine ⟨?_, rfl⟩
   show AV.agg _ = celV (scooped c b g vs sc)
   rw [scooped, ← qT, qTL]; simp [F3]
   exact List.take_of_length_le (by simp)
set_option maxHeartbeats 4000000 in
theorem rcheckVisits_ok (l : List Int) : ACalls Try.prog 73 [ints l] [] (fun r o => r = I (visErr l) ∧ o = []) := by
 refine ACalls.len (l := l.map I) (by simp) ⟨_, Try.func73, by kernel_rfl, by kernel_rfl⟩ fun hl => ?_
 simp [maxLen_val] at hl
 have F := Fx.nil
 refine ent Try.func73 Try.ntmps73 Try.results73 ?_
 refine rK [0] ?_
 refine W.seqk fun K1 hK1 => ?_
 refine rK [0, 6] ?_
 refine it (fun hc1 => ?_) (fun hc1 => ?_)
 ·
  try simp at hc1
  replace F := F.add hc1
  refine rK [2] ?_
  refine W.ret ?_
  refine tr ?_
  clear hK1 K1
  refine er false [] [] ?_
  (try simp only [inB_t, inB_f] at *)
  first
  | (exfalso; omega)
  | exact ⟨congrArg I (by rw [visErr, if_pos (by simpa using hc1)]), by trivial⟩
  | exact ⟨congrArg I (by rw [visErr, if_neg (by simpa using hc1), if_pos (by omega)]), by trivial⟩
  | exact ⟨congrArg I (visErr_done (by simpa using hc1) (by omega) (by omega) hm1).symm, by trivial⟩
  | exact ⟨congrArg I (visErr_hit (by omega) hil hm1 (by rw [qe]; (repeat' split) <;> first | rfl | omega) (by decide)).symm, by trivial⟩
 ·
  try simp at hc1
  replace F := F.add hc1
  refine W.skip ?_
  refine hK1 _ ?_
  clear hK1 K1
  refine W.seqk fun K2 hK2 => ?_
  refine rK [0, 9] ?_
  refine it (fun hc2 => ?_) (fun hc2 => ?_)
  ·
   try simp at hc2
   replace F := F.add hc2
   refine rK [2] ?_
   refine W.ret ?_
   refine tr ?_
   clear hK2 K2
   refine er false [] [] ?_
   (try simp only [inB_t, inB_f] at *)
   first
   | (exfalso; omega)
   | exact ⟨congrArg I (by rw [visErr, if_pos (by simpa using hc1)]), by trivial⟩
   | exact ⟨congrArg I (by rw [visErr, if_neg (by simpa using hc1), if_pos (by omega)]), by trivial⟩
   | exact ⟨congrArg I (visErr_done (by simpa using hc1) (by omega) (by omega) hm1).symm, by trivial⟩
   | exact ⟨congrArg I (visErr_hit (by omega) hil hm1 (by rw [qe]; (repeat' split) <;> first | rfl | omega) (by decide)).symm, by trivial⟩
  ·
   try simp at hc2
   replace F := F.add hc2
   refine W.skip ?_
   refine hK2 _ ?_
   clear hK2 K2
   refine W.seqk fun K3 hK3 => ?_
   refine rK [0, 3] ?_
   refine W.block ?_
   refine lpa (α := Nat) [0] [12, 20] [] (fun i => [(3, I i)]) (fun i => []) (fun i => i ≤ l.length ∧ ∀ j, j < i → visG l j = 0) (fun i => l.length - i) 0 v0 ?_
   ·
    intro i hI0
    simp only [List.cons_append, List.nil_append]
    try dsimp only at hI0
    obtain ⟨hi, hm1⟩ := hI0
    replace F := F.add hi
    refine W.seqk fun K4 hK4 => ?_
    refine rK [0, 3, 13] ?_
    refine it (fun hc3 => ?_) (fun hc3 => ?_)
    ·
     try simp at hc3
     replace F := F.add hc3
     refine W.skip ?_
     refine hK4 _ ?_
     clear hK4 K4
     refine W.seqk fun K5 hK5 => ?_
     refine W.block ?_
     refine W.seqk fun K6 hK6 => ?_
     have hil : i < l.length := by omega
     have hib : i - 1 < l.length := by omega
     have qe := visG_get hil hib
     replace F := F.add hil |>.add hib
     refine W.seqR ?_
     refine oN 4 ?_
     refine oC [] ?_
     refine ct (within_ok _ _ _) ?_
     refine oN 1 ?_
     refine oK [0, 3, 21] ?_
     refine it (fun hc4 => ?_) (fun hc4 => ?_)
     ·
      try simp at hc4
      replace F := F.add hc4
      refine rK [2] ?_
      refine W.ret ?_
      refine tr (br (tr (tr (br (tr ?_)))))
      clear hK6 K6 hK5 K5 hK3 K3
      refine er false [] [] ?_
      (try simp only [inB_t, inB_f] at *)
      first
      | (exfalso; omega)
      | exact ⟨congrArg I (by rw [visErr, if_pos (by simpa using hc1)]), by trivial⟩
      | exact ⟨congrArg I (by rw [visErr, if_neg (by simpa using hc1), if_pos (by omega)]), by trivial⟩
      | exact ⟨congrArg I (visErr_done (by simpa using hc1) (by omega) (by omega) hm1).symm, by trivial⟩
      | exact ⟨congrArg I (visErr_hit (by omega) hil hm1 (by rw [qe]; (repeat' split) <;> first | rfl | omega) (by decide)).symm, by trivial⟩
     ·
      try simp at hc4
      replace F := F.add hc4
      refine W.skip ?_
      refine hK6 _ ?_
      clear hK6 K6
      by_cases h0 : 0 < i
      ·
       replace F := F.add h0
       have him : (i : Int) - 1 = ((i - 1 : Nat) : Int) := by omega
       replace F := F.add him
       refine wD 12 [] [[], [0], [0, 1], [1, 0, 2], [1, 0, 2], [4, 2, 0, 1, 3], [3, 1, 0, 2, 4, 5], [1, 0, 2], [1, 0, 2], [2, 0, 1, 8], [8, 9, 2, 0, 1, 7], [7, 1, 0, 2, 9, 8, 10], [10, 8, 9, 7, 11, 5, 4, 2, 0, 1, 3, 6], [6, 3, 4, 5, 11, 7, 9, 8, 10, 12, 1, 0, 2]] ?_
       refine dB [([], [], []), ([], [true], []), ([], [true, true], [])] 9 3 ?_
       refine dT [26, 29, 30, 31, 32, 33] [true, true, true] [] ?_
       refine dT [25, 29, 30, 31, 32, 33] [true, true, true, false] [] ?_
       refine dT [29, 30, 31, 32, 33] [true, true, true, true, true] [] ?_
       refine dT [29, 30, 31, 32, 33] [true, true, true, true, true, true] [] ?_
       refine dT [25, 26, 27, 28, 30, 31] [true, true, true, false, false, false, false] [] ?_
       refine dT [25, 26, 27, 28, 29] [true, true, true, false, false, false, false, false] [] ?_
       refine dTw [25, 26, 27, 28, 29] [true, true, true, false, false, false, false, false, true] [] ?_
       refine dT [25, 26, 27, 28] [true, true, true, false, false, false, false, true, true, true] [] ?_
       refine dT [25, 26, 27, 28] [true, true, true, false, false, false, false, true, true, true, true] [] ?_
       refine dD ?_
       refine gT ?_
       refine oN 1 ?_
       refine oK [0, 3, 35] ?_
       refine it (fun hc5 => ?_) (fun hc5 => ?_)
       ·
        try simp at hc5
        replace F := F.add hc5
        refine rK [2] ?_
        refine W.ret ?_
        refine br (tr (tr (br (tr ?_))))
        clear hK5 K5 hK3 K3
        refine er false [] [] ?_
        (try simp only [inB_t, inB_f] at *)
        first
        | (exfalso; omega)
        | exact ⟨congrArg I (by rw [visErr, if_pos (by simpa using hc1)]), by trivial⟩
        | exact ⟨congrArg I (by rw [visErr, if_neg (by simpa using hc1), if_pos (by omega)]), by trivial⟩
        | exact ⟨congrArg I (visErr_done (by simpa using hc1) (by omega) (by omega) hm1).symm, by trivial⟩
        | exact ⟨congrArg I (visErr_hit (by omega) hil hm1 (by rw [qe]; (repeat' split) <;> first | rfl | omega) (by decide)).symm, by trivial⟩
       ·
        try simp at hc5
        replace F := F.add hc5
        refine W.skip ?_
        refine hK5 _ ?_
        clear hK5 K5
        refine rEw ?_
        refine ⟨i + 1, lf0, ?_, v0⟩
        ·
         (try simp only [inB_t, inB_f] at *)
         exact ⟨by omega, zero_snoc hm1 (by rw [qe]; (repeat' split) <;> first | rfl | omega)⟩
      ·
       replace F := F.add h0
       refine wD 12 [] [[], [0], [0, 1], [1, 0, 2], [1, 0, 2], [4, 2, 0, 1, 3], [3, 1, 0, 2, 4, 5], [1, 0, 2], [1, 0, 2], [2, 0, 1, 8], [8, 9, 2, 0, 1, 7], [7, 1, 0, 2, 9, 8, 10], [10, 8, 9, 7, 11, 5, 4, 2, 0, 1, 3, 6], [6, 3, 4, 5, 11, 7, 9, 8, 10, 12, 1, 0, 2]] ?_
       refine dB [([], [], []), ([], [true], []), ([], [true, true], [])] 9 3 ?_
       refine dF [some 25, some 26, some 27, some 28, some 29, some 30, some 31, some 32, some 33] 2 24 true 0 ?_
       refine dD ?_
       refine gF ?_
       refine oN 1 ?_
       refine oK [0, 3, 35] ?_
       refine cF ?_
       refine W.skip ?_
       refine hK5 _ ?_
       clear hK5 K5
       refine rEw ?_
       refine ⟨i + 1, lf0, ?_, v0⟩
       ·
        (try simp only [inB_t, inB_f] at *)
        exact ⟨by omega, zero_snoc hm1 (by rw [qe]; (repeat' split) <;> first | rfl | omega)⟩
    ·
     try simp at hc3
     replace F := F.add hc3
     refine W.exit ?_
     refine hK3 _ ?_
     clear hK4 K4 hK3 K3
     refine rK [2] ?_
     refine W.ret ?_
     refine er false [] [] ?_
     (try simp only [inB_t, inB_f] at *)
     first
     | (exfalso; omega)
     | exact ⟨congrArg I (by rw [visErr, if_pos (by simpa using hc1)]), by trivial⟩
     | exact ⟨congrArg I (by rw [visErr, if_neg (by simpa using hc1), if_pos (by omega)]), by trivial⟩
     | exact ⟨congrArg I (visErr_done (by simpa using hc1) (by omega) (by omega) hm1).symm, by trivial⟩
     | exact ⟨congrArg I (visErr_hit (by omega) hil hm1 (by rw [qe]; (repeat' split) <;> first | rfl | omega) (by decide)).symm, by trivial⟩
end Go.Sim
