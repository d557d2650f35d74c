/- What truly is: truths, and what is truly lost. -/
import Derived.Test.YtfenmmjeppehaaaLj
import Derived.Test.YtfenmmjeppehaaaOc
namespace Go.Sim
open Go.Proofs
set_option maxRecDepth 100000
set_option linter.unusedSimpArgs false
set_option linter.unusedVariables false
attribute [-simp] List.map_set List.map_take List.map_drop
structure Tru where
  ice : List Int
  melts : List (List Int)
  cld : List (List Int)
  wrm : List (List Int)
  hall : List Int
abbrev trueV (t : Tru) : AV := .agg [ints t.ice, tabs t.melts, tabs t.cld, tabs t.wrm, ints t.hall]
/-- so many numbers of a span -/
def InL (x : Spn) (n : Nat) (l : List Int) : Prop := l.length = n ∧ ∀ y ∈ l, x.lo ≤ y ∧ y ≤ x.hi
theorem InL.nth {x : Spn} {n : Nat} {l : List Int} (h : InL x n l) {i : Nat} (hi : i < n) : x.lo ≤ nth l i ∧ nth l i ≤ x.hi := by
  rw [nth_get (by rw [h.1]; exact hi)]; exact h.2 _ (List.getElem_mem _)
theorem all_snoc {x : Spn} {l : List Int} {v : Int} (h : ∀ y ∈ l, x.lo ≤ y ∧ y ≤ x.hi) (hv : x.lo ≤ v ∧ v ≤ x.hi) : ∀ y ∈ l ++ [v], x.lo ≤ y ∧ y ≤ x.hi := fun y hy => by
  rcases List.mem_append.1 hy with q | q
  · exact h y q
  · obtain rfl := List.mem_singleton.1 q; exact hv
theorem nth_snoc_lt {α : Type} [NthD α] {l : List α} {x : α} {i : Nat} (h : i < l.length) : nth (l ++ [x]) i = nth l i := by
  rw [nth_get (by rw [List.length_append]; omega), nth_get h, List.getElem_append_left]
theorem nth_snoc_eq {α : Type} [NthD α] {l : List α} {x : α} {i : Nat} (h : i = l.length) : nth (l ++ [x]) i = x := by
  subst h
  rw [nth_get (by rw [List.length_append]; simp), List.getElem_append_right (by omega)]; simp
/-- what truly is of a box -/
def BoxTru (b : CBox) (n : Nat) (ic : Int) (ml cq wm : List Int) : Prop := (b.ice.lo ≤ ic ∧ ic ≤ b.ice.hi) ∧ InL b.melt n ml ∧ InL b.cld n cq ∧ InL b.wrm n wm
def BoxesTru (bs : List CBox) (n : Nat) (ic : List Int) (ml cq wm : List (List Int)) : Prop := (ml.length = ic.length ∧ cq.length = ic.length ∧ wm.length = ic.length) ∧ ∀ b, b < ic.length → BoxTru (nth bs b) n (nth ic b) (nth ml b) (nth cq b) (nth wm b)
structure TruOk (c : Cel) (n : Nat) (t : Tru) : Prop where
  hall : InL c.hall n t.hall
  len : t.ice.length = c.boxes.length
  bx : BoxesTru c.boxes n t.ice t.melts t.cld t.wrm
theorem boxesTru_snoc {bs : List CBox} {n : Nat} {ic : List Int} {ml cq wm : List (List Int)} (h : BoxesTru bs n ic ml cq wm) {x : Int} {a b d : List Int} (hx : BoxTru (nth bs ic.length) n x a b d) : BoxesTru bs n (ic ++ [x]) (ml ++ [a]) (cq ++ [b]) (wm ++ [d]) := by
  obtain ⟨⟨h1, h2, h3⟩, h4⟩ := h
  refine ⟨⟨by simp [h1], by simp [h2], by simp [h3]⟩, fun j hj => ?_⟩
  rw [List.length_append, List.length_cons, List.length_nil] at hj
  by_cases e : j < ic.length
  · rw [nth_snoc_lt e, nth_snoc_lt (by omega), nth_snoc_lt (by omega), nth_snoc_lt (by omega)]; exact h4 j e
  · have e' : j = ic.length := by omega
    rw [nth_snoc_eq e', nth_snoc_eq (by omega), nth_snoc_eq (by omega), nth_snoc_eq (by omega), e']; exact hx
theorem inL_nil (x : Spn) : ∀ y ∈ ([] : List Int), x.lo ≤ y ∧ y ≤ x.hi := fun y hy => by cases hy
noncomputable def hallI (x : Spn) (f : Int) : Nat → List Int × Int
  | 0 => ([], f)
  | k + 1 => ((hallI x f k).1 ++ [truV (hallI x f k).2 x], truF (hallI x f k).2 x)
noncomputable def rowI (b : CBox) (f : Int) : Nat → List Int × List Int × List Int × Int
  | 0 => ([], [], [], f)
  | k + 1 => ((rowI b f k).1 ++ [truV (rowI b f k).2.2.2 b.melt], (rowI b f k).2.1 ++ [truV (truF (rowI b f k).2.2.2 b.melt) b.cld], (rowI b f k).2.2.1 ++ [truV (truF (truF (rowI b f k).2.2.2 b.melt) b.cld) b.wrm], truF (truF (truF (rowI b f k).2.2.2 b.melt) b.cld) b.wrm)
noncomputable def boxI (bs : List CBox) (n : Nat) (f : Int) : Nat → List Int × List (List Int) × List (List Int) × List (List Int) × Int
  | 0 => ([], [], [], [], f)
  | k + 1 => ((boxI bs n f k).1 ++ [truV (boxI bs n f k).2.2.2.2 (nth bs k).ice], (boxI bs n f k).2.1 ++ [(rowI (nth bs k) (truF (boxI bs n f k).2.2.2.2 (nth bs k).ice) n).1], (boxI bs n f k).2.2.1 ++ [(rowI (nth bs k) (truF (boxI bs n f k).2.2.2.2 (nth bs k).ice) n).2.1],
      (boxI bs n f k).2.2.2.1 ++ [(rowI (nth bs k) (truF (boxI bs n f k).2.2.2.2 (nth bs k).ice) n).2.2.1], (rowI (nth bs k) (truF (boxI bs n f k).2.2.2.2 (nth bs k).ice) n).2.2.2)
noncomputable def truthD (f : Int) (c : Cel) (n : Nat) : Tru × Int :=
  (⟨(boxI c.boxes n (hallI c.hall f n).2 c.boxes.length).1, (boxI c.boxes n (hallI c.hall f n).2 c.boxes.length).2.1, (boxI c.boxes n (hallI c.hall f n).2 c.boxes.length).2.2.1, (boxI c.boxes n (hallI c.hall f n).2 c.boxes.length).2.2.2.1, (hallI c.hall f n).1⟩, (boxI c.boxes n (hallI c.hall f n).2 c.boxes.length).2.2.2.2)
theorem hallI_ok {x : Spn} (h : x.lo ≤ x.hi) (f : Int) : ∀ k, InL x k (hallI x f k).1
  | 0 => ⟨rfl, inL_nil _⟩
  | k + 1 => ⟨by simp [hallI, (hallI_ok h f k).1], all_snoc (hallI_ok h f k).2 (truV_range _ h)⟩
theorem rowI_ok {b : CBox} (h : BoxOk b) (f : Int) : ∀ k, InL b.melt k (rowI b f k).1 ∧ InL b.cld k (rowI b f k).2.1 ∧ InL b.wrm k (rowI b f k).2.2.1
  | 0 => ⟨⟨rfl, inL_nil _⟩, ⟨rfl, inL_nil _⟩, rfl, inL_nil _⟩
  | k + 1 => by
    obtain ⟨h1, h2, h3⟩ := rowI_ok h f k
    exact ⟨⟨by simp [rowI, h1.1], all_snoc h1.2 (truV_range _ h.melt.2.1)⟩, ⟨by simp [rowI, h2.1], all_snoc h2.2 (truV_range _ h.cld.2.1)⟩, by simp [rowI, h3.1], all_snoc h3.2 (truV_range _ h.wrm.2.1)⟩
theorem boxI_ok {bs : List CBox} (h : ∀ b ∈ bs, BoxOk b) (n : Nat) (f : Int) : ∀ k, k ≤ bs.length → (boxI bs n f k).1.length = k ∧ BoxesTru bs n (boxI bs n f k).1 (boxI bs n f k).2.1 (boxI bs n f k).2.2.1 (boxI bs n f k).2.2.2.1
  | 0, _ => ⟨rfl, ⟨rfl, rfl, rfl⟩, fun b hb => absurd hb (Nat.not_lt_zero _)⟩
  | k + 1, hk => by
    obtain ⟨h1, h2⟩ := boxI_ok h n f k (by omega)
    have q : BoxOk (nth bs k) := by rw [nth_get (by omega)]; exact h _ (List.getElem_mem _)
    obtain ⟨r1, r2, r3⟩ := rowI_ok q (truF (boxI bs n f k).2.2.2.2 (nth bs k).ice) n
    exact ⟨by simp [boxI, h1], boxesTru_snoc h2 (by rw [h1]; exact ⟨truV_range _ q.ice.2.1, r1, r2, r3⟩)⟩
theorem truthD_ok {c : Cel} (hv : ValidC c) (f : Int) (n : Nat) : TruOk c n (truthD f c n).1 := by
  obtain ⟨h1, h2⟩ := boxI_ok hv.bx n (hallI c.hall f n).2 c.boxes.length (Nat.le_refl _)
  exact ⟨hallI_ok hv.hall.2.1 f n, h1, h2⟩
set_option maxHeartbeats 4000000 in
theorem truthOf_det (f : Int) (c : Cel) (hv : ValidC c) (n : Nat) (hn : n ≤ 1000) : ACalls Try.prog 50 [.ptr 10000 0 0, celV c, I n] [(10000, die f)] (fun r o => r = trueV (truthD f c n).1 ∧ o = [(10000, die (truthD f c n).2)]) := by
 refine ACalls.lenA (xs := [I c.hall.lo, I c.hall.hi, boxesV c.boxes, filsV c.fils, ratsV c.rats]) (l := c.boxes.map B9) (by simp) (by simp) ⟨_, Try.func50, by kernel_rfl, by kernel_rfl⟩ fun hl1 => ?_
 simp [maxLen_val] at hl1
 have F := Fx.nil
 replace F := F.add hn
 refine ent Try.func50 Try.ntmps50 Try.results50 ?_
 have qha := hv.hall
 have hb6 := hv.b6
 replace F := F.add hb6
 refine rK [0, 2, 4, 6] ?_
 refine rK [0, 2, 4, 6, 7] ?_
 refine W.seqk fun K1 hK1 => ?_
 refine rK [0, 2, 4, 6, 7, 8] ?_
 refine W.block ?_
 refine sno 56 0 4 9000 3 1 ?_
 refine lpa (α := List Int × Int) [0, 2, 4, 6, 7] [26, 27, 28] [56, 9000, 10000] (fun x => [(8, I x.1.length)]) (fun x => [(56, .row false 77 5 [.agg [.val (.slice none 0 0), .val (.slice none 0 0), .val (.slice none 0 0), .val (.slice none 0 0), .own 9000 0 x.1.length]]), (9000, .row true 3 1 (x.1.map I)), (10000, die x.2)]) (fun x => x.1.length ≤ n ∧ (x.1, x.2) = hallI c.hall f x.1.length) (fun x => n - x.1.length) ([], f) ?_ ?_
 ·
  first
  | exact ⟨Nat.zero_le _, rfl⟩
  | exact ⟨Nat.zero_le _, ⟨rfl, rfl, rfl⟩, rfl⟩
  | exact ⟨Nat.zero_le _, rfl, rfl, rfl⟩
 ·
  intro ⟨lh, g⟩ hI0
  simp only [List.cons_append, List.nil_append]
  try dsimp only at hI0
  obtain ⟨hhl, kla⟩ := hI0
  replace F := F.add hhl
  refine W.seqk fun K2 hK2 => ?_
  refine rK [0, 2, 4, 6, 7, 8, 18] ?_
  refine it (fun hc1 => ?_) (fun hc1 => ?_)
  ·
   try simp at hc1
   replace F := F.add hc1
   refine W.skip ?_
   refine hK2 _ ?_
   clear hK2 K2
   refine W.seqk fun K3 hK3 => ?_
   refine W.block ?_
   have hn5 : lh.length < n := by omega
   obtain ⟨v, qv⟩ : ∃ v, truV g c.hall = v := ⟨_, rfl⟩
   obtain ⟨g2, qg2⟩ : ∃ x, truF g c.hall = x := ⟨_, rfl⟩
   have hvv := qv
   have hg2 := qg2
   have qvr : c.hall.lo ≤ v ∧ v ≤ c.hall.hi := by rw [← qv]; exact truV_range g (by omega)
   replace F := F.add hn5 |>.add hvv |>.add hg2
   refine wDe 7 [(5, [10000])] [[], [0], [], [], [3], [3, 4, 2], [2, 4, 3, 5], [5, 3, 4, 2, 6, 0, 1], [7, 6, 5, 4, 3, 2, 1, 0], [0, 1, 2, 3, 4, 5, 6, 7, 8]] ?_
   refine dB [([23, 24, 25, 26, 27], [], [10000]), ([23, 24, 25, 26, 27], [true], [10000]), ([21, 22, 24, 25], [false, false], []), ([21, 22, 23], [false, false, false], []), ([21, 22, 23], [false, false, false, true], [])] 2 5 ?_
   refine dC [21, 22] [false, false, true, true, true] [] [(10000, 10000)] ?_
   refine cd (True_ok g c.hall (by omega) (by omega) (by omega)) ?_
   refine dB [([21, 22], [false, false, true, true, true, true], [])] 0 7 ?_
   refine dD ?_
   refine oNw 3 ?_
   refine WOps.endK ?_
   refine hK3 _ ?_
   clear hK3 K3
   refine rEw ?_
   refine ⟨(lh ++ [v], g2), lf0, ?_, v0⟩
   ·
    refine ⟨by show (lh ++ [v]).length ≤ n; simp; omega, ?_⟩
    show (lh ++ [v], g2) = hallI c.hall f (lh ++ [v]).length
    rw [len_snoc, hallI, ← kla]
    dsimp only
    rw [qv, qg2]
  ·
   try simp at hc1
   replace F := F.add hc1
   refine W.exit ?_
   refine hK1 _ ?_
   clear hK2 K2 hK1 K1
   refine W.seqk fun K4 hK4 => ?_
   refine rK [0, 2, 4, 6, 7, 9] ?_
   refine W.block ?_
   have hhn : lh.length = n := by omega
   have htk : List.take n lh = lh := List.take_of_length_le (by omega)
   replace F := F.add hhn |>.add htk
   refine sno 56 0 0 9048 3 1 ?_
   refine sno 56 0 1 9056 29 1 ?_
   refine sno 56 0 2 9064 29 1 ?_
   refine sno 56 0 3 9072 29 1 ?_
   refine lpa (α := List Int × List (List Int) × List (List Int) × List (List Int) × Int) [0, 2, 4, 6, 7] [10, 33, 47, 48, 49, 60, 61, 62, 67, 68, 69, 74, 75, 76, 80, 81, 85, 86, 90, 91] [56, 9048, 9056, 9064, 9072, 10000] (fun x => [(9, I x.1.length)]) (fun x => [(56, .row false 77 5 [.agg [.own 9048 0 x.1.length, .own 9056 0 x.2.1.length, .own 9064 0 x.2.2.1.length, .own 9072 0 x.2.2.2.1.length, .own 9000 0 lh.length]]), (9048, .row true 3 1 (x.1.map I)), (9056, .row true 29 1 (x.2.1.map ints)), (9064, .row true 29 1 (x.2.2.1.map ints)), (9072, .row true 29 1 (x.2.2.2.1.map ints)), (10000, die x.2.2.2.2)]) (fun x => x.1.length ≤ c.boxes.length ∧ (x.2.1.length = x.1.length ∧ x.2.2.1.length = x.1.length ∧ x.2.2.2.1.length = x.1.length) ∧ x = boxI c.boxes n g x.1.length) (fun x => c.boxes.length - x.1.length) ([], [], [], [], g) ?_ ?_
   ·
    first
    | exact ⟨Nat.zero_le _, rfl⟩
    | exact ⟨Nat.zero_le _, ⟨rfl, rfl, rfl⟩, rfl⟩
    | exact ⟨Nat.zero_le _, rfl, rfl, rfl⟩
   ·
    intro ⟨ic, ml, cq, wm, g1⟩ hI1
    simp only [List.cons_append, List.nil_append]
    try dsimp only at hI1
    obtain ⟨hil, ⟨hml, hcq, hwm⟩, kbt⟩ := hI1
    replace F := F.add hil |>.add hml |>.add hcq |>.add hwm
    refine W.seqk fun K5 hK5 => ?_
    refine rK [0, 2, 4, 6, 7, 9, 34] ?_
    refine it (fun hc2 => ?_) (fun hc2 => ?_)
    ·
     try simp at hc2
     replace F := F.add hc2
     refine W.skip ?_
     refine hK5 _ ?_
     clear hK5 K5
     refine W.seqk fun K6 hK6 => ?_
     refine W.block ?_
     have hib : ic.length < c.boxes.length := by omega
     obtain ⟨BX, qBX⟩ : ∃ B, B = c.boxes[ic.length] := ⟨_, rfl⟩
     have hBX := qBX.symm
     have qBn : BX = nth c.boxes ic.length := by rw [nth_get hib]; exact qBX
     have qk : BoxOk BX := by rw [qBn]; exact hv.box hib
     have qk1 := qk.ice
     have qk2 := qk.melt
     have qk3 := qk.cld
     have qk4 := qk.wrm
     have qk5 := qk.room
     obtain ⟨x0, qx0⟩ : ∃ v, truV g1 BX.ice = v := ⟨_, rfl⟩
     obtain ⟨g3, qg3⟩ : ∃ x, truF g1 BX.ice = x := ⟨_, rfl⟩
     have hx0 := qx0
     have hg3 := qg3
     have qx0r : BX.ice.lo ≤ x0 ∧ x0 ≤ BX.ice.hi := by rw [← qx0]; exact truV_range g1 (by omega)
     replace F := F.add hib |>.add hBX |>.add hx0 |>.add hg3
     refine rK [0, 2, 4, 6, 7, 9, 10] ?_
     refine wD 7 [(5, [10000])] [[], [0], [], [], [3], [3, 4, 2], [2, 4, 3, 5], [5, 3, 4, 2, 6, 0, 1], [7, 6, 5, 4, 3, 2, 1, 0], [0, 1, 2, 3, 4, 5, 6, 7, 8]] ?_
     refine dB [([44, 45, 46, 47, 48], [], [10000]), ([44, 45, 46, 47, 48], [true], [10000]), ([42, 43, 45, 46], [false, false], []), ([42, 43, 44], [false, false, false], []), ([42, 43, 44], [false, false, false, true], [])] 2 5 ?_
     refine dC [42, 43] [false, false, true, true, true] [] [(10000, 10000)] ?_
     refine cd (True_ok g1 BX.ice (by omega) (by omega) (by omega)) ?_
     refine dB [([42, 43], [false, false, true, true, true, true], [])] 0 7 ?_
     refine dD ?_
     refine oNw 3 ?_
     refine oK [0, 2, 4, 6, 7, 9, 10] ?_
     refine rK [0, 2, 4, 6, 7, 9, 10, 11, 12, 13] ?_
     refine W.seqk fun K7 hK7 => ?_
     refine rK [0, 2, 4, 6, 7, 9, 10, 11, 12, 13, 14] ?_
     refine W.block ?_
     refine sn 11 9008 3 1 ?_
     refine sn 12 9016 3 1 ?_
     refine sn 13 9024 3 1 ?_
     refine lpa (α := List Int × List Int × List Int × Int) [0, 2, 4, 6, 7, 9, 10] [60, 61, 62, 67, 68, 69, 74, 75, 76] [9008, 9016, 9024, 10000] (fun x => [(14, I x.1.length), (11, .own 9008 0 x.1.length), (12, .own 9016 0 x.2.1.length), (13, .own 9024 0 x.2.2.1.length)]) (fun x => [(9008, .row true 3 1 (x.1.map I)), (9016, .row true 3 1 (x.2.1.map I)), (9024, .row true 3 1 (x.2.2.1.map I)), (10000, die x.2.2.2)]) (fun x => x.1.length ≤ n ∧ x.2.1.length = x.1.length ∧ x.2.2.1.length = x.1.length ∧ x = rowI BX g3 x.1.length) (fun x => n - x.1.length) ([], [], [], g3) ?_ ?_
     ·
      first
      | exact ⟨Nat.zero_le _, rfl⟩
      | exact ⟨Nat.zero_le _, ⟨rfl, rfl, rfl⟩, rfl⟩
      | exact ⟨Nat.zero_le _, rfl, rfl, rfl⟩
     ·
      intro ⟨a, b, d, g4⟩ hI2
      simp only [List.cons_append, List.nil_append]
      try dsimp only at hI2
      obtain ⟨han, hba, hda, kma⟩ := hI2
      replace F := F.add han |>.add hba |>.add hda
      refine W.seqk fun K8 hK8 => ?_
      refine rK [0, 2, 4, 6, 7, 9, 10, 11, 12, 13, 14, 53] ?_
      refine it (fun hc3 => ?_) (fun hc3 => ?_)
      ·
       try simp at hc3
       replace F := F.add hc3
       refine W.skip ?_
       refine hK8 _ ?_
       clear hK8 K8
       refine W.seqk fun K9 hK9 => ?_
       refine W.block ?_
       have hal : a.length < n := by omega
       obtain ⟨v1, qv1⟩ : ∃ v, truV g4 BX.melt = v := ⟨_, rfl⟩
       obtain ⟨e1, qe1⟩ : ∃ x, truF g4 BX.melt = x := ⟨_, rfl⟩
       obtain ⟨v2, qv2⟩ : ∃ v, truV e1 BX.cld = v := ⟨_, rfl⟩
       obtain ⟨e2, qe2⟩ : ∃ x, truF e1 BX.cld = x := ⟨_, rfl⟩
       obtain ⟨v3, qv3⟩ : ∃ v, truV e2 BX.wrm = v := ⟨_, rfl⟩
       obtain ⟨e3, qe3⟩ : ∃ x, truF e2 BX.wrm = x := ⟨_, rfl⟩
       have hv1 := qv1
       have he1 := qe1
       have hv2 := qv2
       have he2 := qe2
       have hv3 := qv3
       have he3 := qe3
       have qr1 : BX.melt.lo ≤ v1 ∧ v1 ≤ BX.melt.hi := by rw [← qv1]; exact truV_range g4 (by omega)
       have qr2 : BX.cld.lo ≤ v2 ∧ v2 ≤ BX.cld.hi := by rw [← qv2]; exact truV_range e1 (by omega)
       have qr3 : BX.wrm.lo ≤ v3 ∧ v3 ≤ BX.wrm.hi := by rw [← qv3]; exact truV_range e2 (by omega)
       replace F := F.add hal |>.add hv1 |>.add he1 |>.add hv2 |>.add he2 |>.add hv3 |>.add he3
       refine wDe 20 [(4, [10000]), (6, [9008]), (11, [10000]), (13, [9016]), (18, [10000])] [[], [], [], [2], [2, 3, 1], [1, 3, 2, 4], [4, 2, 3, 1, 5, 0], [], [], [], [9], [0, 5, 1, 3, 2, 4, 6, 9, 10, 8], [8, 10, 9, 6, 4, 2, 3, 1, 5, 0, 11], [11, 0, 5, 1, 3, 2, 4, 6, 9, 10, 8, 12, 7], [], [], [], [16], [7, 12, 8, 10, 9, 6, 4, 2, 3, 1, 5, 0, 11, 13, 16, 17, 15], [15, 17, 16, 13, 11, 0, 5, 1, 3, 2, 4, 6, 9, 10, 8, 12, 7, 18], [18, 7, 12, 8, 10, 9, 6, 4, 2, 3, 1, 5, 0, 11, 13, 16, 17, 15, 19, 14], [14, 19, 15, 17, 16, 13, 11, 9, 10, 8, 12, 7, 18, 20, 0, 5, 1, 3, 2, 4, 6], [20, 18, 16, 17, 15, 19, 14, 21, 7, 12, 8, 10, 9, 6, 4, 2, 3, 1, 5, 0, 11, 13], [21, 22, 14, 19, 15, 17, 16, 13, 11, 0, 5, 1, 3, 2, 4, 6, 9, 10, 8, 12, 7, 18, 20]] ?_
       refine dB [([57, 58, 59, 60, 61, 63, 64, 65, 66, 70, 71, 72, 73], [], [10000]), ([56, 58, 59, 63, 64, 65, 66, 70, 71, 72, 73], [false], []), ([56, 57, 63, 64, 65, 66, 70, 71, 72, 73], [false, false], []), ([56, 57, 63, 64, 65, 66, 70, 71, 72, 73], [false, false, true], [])] 16 4 ?_
       refine dC [56, 63, 64, 65, 66, 70, 71, 72, 73] [false, true, true, true] [] [(10000, 10000)] ?_
       refine cd (True_ok g4 BX.melt (by omega) (by omega) (by omega)) ?_
       refine dB [([56, 63, 64, 65, 66, 70, 71, 72, 73], [false, true, true, true, true], [])] 14 6 ?_
       refine dAw [63, 64, 65, 66, 70, 71, 72, 73] [true, true, true, true, true, true] [] [9008] ?_
       refine dB [([56, 57, 58, 59, 60, 61, 62, 64, 65, 66, 67, 68, 70, 71, 72, 73], [false, false, false, false, false, false, false], [10000, 9008, 10000]), ([56, 57, 58, 59, 60, 61, 62, 63, 65, 66, 70, 71, 72, 73], [false, false, false, false, false, false, false, false], [10000, 9008]), ([56, 57, 58, 59, 60, 61, 62, 63, 64, 70, 71, 72, 73], [false, false, false, false, false, false, false, false, false], [10000, 9008]), ([56, 57, 58, 59, 60, 61, 62, 63, 64, 70, 71, 72, 73], [false, false, false, false, false, false, false, false, false, true], [10000, 9008])] 9 11 ?_
       refine dC [63, 70, 71, 72, 73] [true, true, true, true, true, true, true, false, true, true, true] [] [(10000, 10000)] ?_
       refine cd (True_ok e1 BX.cld (by omega) (by omega) (by omega)) ?_
       refine dB [([63, 70, 71, 72, 73], [true, true, true, true, true, true, true, false, true, true, true, true], [])] 7 13 ?_
       refine dAw [70, 71, 72, 73] [true, true, true, true, true, true, true, true, true, true, true, true, true] [] [9016] ?_
       refine dB [([56, 57, 58, 59, 60, 61, 62, 63, 64, 65, 66, 67, 68, 69, 71, 72, 73, 74, 75], [false, false, false, false, false, false, false, false, false, false, false, false, false, false], [10000, 9008, 10000, 9016, 10000]), ([56, 57, 58, 59, 60, 61, 62, 63, 64, 65, 66, 67, 68, 69, 70, 72, 73], [false, false, false, false, false, false, false, false, false, false, false, false, false, false, false], [10000, 9008, 10000, 9016]), ([56, 57, 58, 59, 60, 61, 62, 63, 64, 65, 66, 67, 68, 69, 70, 71], [false, false, false, false, false, false, false, false, false, false, false, false, false, false, false, false], [10000, 9008, 10000, 9016]), ([56, 57, 58, 59, 60, 61, 62, 63, 64, 65, 66, 67, 68, 69, 70, 71], [false, false, false, false, false, false, false, false, false, false, false, false, false, false, false, false, true], [10000, 9008, 10000, 9016])] 2 18 ?_
       refine dC [70] [true, true, true, true, true, true, true, true, true, true, true, true, true, true, false, true, true, true] [] [(10000, 10000)] ?_
       refine cd (True_ok e2 BX.wrm (by omega) (by omega) (by omega)) ?_
       refine dB [([70], [true, true, true, true, true, true, true, true, true, true, true, true, true, true, false, true, true, true, true], [])] 0 20 ?_
       refine dD ?_
       refine WOps.le (Le.exch (x := 496) (y := 9008) (by simp [hn, hb6, hhl, hc1, hhn, htk, hil, hml, hcq, hwm, hc2, hib, hBX, hx0, hg3, han, hba, hda, hc3, hal, hv1, he1, hv2, he2, hv3, he3]; rfl)) rfl rfl ?_
       refine WOps.le (Le.exch (x := 552) (y := 9016) (by simp [hn, hb6, hhl, hc1, hhn, htk, hil, hml, hcq, hwm, hc2, hib, hBX, hx0, hg3, han, hba, hda, hc3, hal, hv1, he1, hv2, he2, hv3, he3]; rfl)) rfl rfl ?_
       refine oNw 4 ?_
       refine WOps.endK ?_
       refine hK9 _ ?_
       clear hK9 K9
       refine rEw ?_
       refine ⟨(a ++ [v1], b ++ [v2], d ++ [v3], e3), lf0, ?_, v0⟩
       ·
        refine ⟨by show (a ++ [v1]).length ≤ n; simp; omega, by simp [hba], by simp [hda], ?_⟩
        show (a ++ [v1], b ++ [v2], d ++ [v3], e3) = rowI BX g3 (a ++ [v1]).length
        rw [len_snoc, rowI, ← kma]
        dsimp only
        rw [qv1, qe1, qv2, qe2, qv3, qe3]
      ·
       try simp at hc3
       replace F := F.add hc3
       refine W.exit ?_
       refine hK7 _ ?_
       clear hK8 K8 hK7 K7
       have hae : a.length = n := by omega
       have htk1 : List.take n a = a := List.take_of_length_le (by omega)
       have htk2 : List.take n b = b := List.take_of_length_le (by omega)
       have htk3 : List.take n d = d := List.take_of_length_le (by omega)
       replace F := F.add hae |>.add htk1 |>.add htk2 |>.add htk3
       refine W.weaken (Le.freeze (id := 9008) (by simp [hn, hb6, hhl, hc1, hhn, htk, hil, hml, hcq, hwm, hc2, hib, hBX, hx0, hg3, han, hba, hda, hc3, hae, htk1, htk2, htk3]; rfl)) ?_
       refine W.weaken (Le.freeze (id := 9016) (by simp [hn, hb6, hhl, hc1, hhn, htk, hil, hml, hcq, hwm, hc2, hib, hBX, hx0, hg3, han, hba, hda, hc3, hae, htk1, htk2, htk3]; rfl)) ?_
       refine W.weaken (Le.freeze (id := 9024) (by simp [hn, hb6, hhl, hc1, hhn, htk, hil, hml, hcq, hwm, hc2, hib, hBX, hx0, hg3, han, hba, hda, hc3, hae, htk1, htk2, htk3]; rfl)) ?_
       refine wDe 16 [(4, [9056]), (9, [9064]), (14, [9072])] [[], [0], [], [2], [2, 3, 0, 1], [], [5], [], [7], [1, 0, 3, 2, 4, 7, 8, 5, 6], [], [10], [], [12], [6, 5, 8, 7, 4, 2, 3, 0, 1, 9, 12, 13, 10, 11], [11, 10, 6, 5, 4, 3, 2, 1, 0], [13, 12, 9, 7, 8, 14, 0, 1, 2, 3, 4, 5, 6, 10, 11, 15], [14, 12, 13, 16, 15, 11, 10, 9, 8, 7, 6, 5, 4, 3, 2, 1, 0], [0, 1, 2, 3, 4, 5, 6, 7, 8, 9, 10, 11, 15, 16, 13, 12, 14, 17], [18, 17, 16, 15, 14, 13, 12, 11, 10, 9, 8, 7, 6, 5, 4, 3, 2, 1, 0], [0, 1, 2, 3, 4, 5, 6, 7, 8, 9, 10, 11, 12, 13, 14, 15, 16, 17, 18, 19]] ?_
       refine dB [([79, 80, 82, 83, 84, 85, 87, 88, 89, 90], [], []), ([79, 80, 82, 83, 84, 85, 87, 88, 89, 90], [true], []), ([77, 78, 82, 83, 84, 85, 87, 88, 89, 90], [false, false], []), ([77, 78, 82, 83, 84, 85, 87, 88, 89, 90], [false, false, true], [])] 12 4 ?_
       refine dAw [82, 83, 84, 85, 87, 88, 89, 90] [true, true, true, true] [] [9056] ?_
       refine dB [([77, 78, 79, 80, 81, 84, 85, 87, 88, 89, 90], [false, false, false, false, false], [9056]), ([77, 78, 79, 80, 81, 84, 85, 87, 88, 89, 90], [false, false, false, false, false, true], [9056]), ([77, 78, 79, 80, 81, 82, 83, 87, 88, 89, 90, 92], [false, false, false, false, false, false, false], [9056]), ([77, 78, 79, 80, 81, 82, 83, 87, 88, 89, 90, 92], [false, false, false, false, false, false, false, true], [9056])] 7 9 ?_
       refine dAw [87, 88, 89, 90, 92] [true, true, true, true, true, true, true, true, true] [] [9064] ?_
       refine dB [([77, 78, 79, 80, 81, 82, 83, 84, 85, 86, 89, 90], [false, false, false, false, false, false, false, false, false, false], [9056, 9064]), ([77, 78, 79, 80, 81, 82, 83, 84, 85, 86, 89, 90], [false, false, false, false, false, false, false, false, false, false, true], [9056, 9064]), ([77, 78, 79, 80, 81, 82, 83, 84, 85, 86, 87, 88, 92], [false, false, false, false, false, false, false, false, false, false, false, false], [9056, 9064]), ([77, 78, 79, 80, 81, 82, 83, 84, 85, 86, 87, 88, 92], [false, false, false, false, false, false, false, false, false, false, false, false, true], [9056, 9064])] 2 14 ?_
       refine dAw [92] [true, true, true, true, true, true, true, true, true, true, true, true, true, true] [] [9072] ?_
       refine dB [([84, 85, 86, 89, 90, 91], [true, true, true, true, true, true, true, false, false, false, true, true, false, false, false], [9064, 9072])] 0 16 ?_
       refine dD ?_
       refine WOps.le (Le.exch (x := 648) (y := 9056) (by simp [hn, hb6, hhl, hc1, hhn, htk, hil, hml, hcq, hwm, hc2, hib, hBX, hx0, hg3, han, hba, hda, hc3, hae, htk1, htk2, htk3]; rfl)) rfl rfl ?_
       refine WOps.le (Le.exch (x := 688) (y := 9064) (by simp [hn, hb6, hhl, hc1, hhn, htk, hil, hml, hcq, hwm, hc2, hib, hBX, hx0, hg3, han, hba, hda, hc3, hae, htk1, htk2, htk3]; rfl)) rfl rfl ?_
       refine WOps.le (Le.exch (x := 728) (y := 9072) (by simp [hn, hb6, hhl, hc1, hhn, htk, hil, hml, hcq, hwm, hc2, hib, hBX, hx0, hg3, han, hba, hda, hc3, hae, htk1, htk2, htk3]; rfl)) rfl rfl ?_
       refine oN 5 ?_
       refine WOps.endK ?_
       refine hK6 _ ?_
       clear hK6 K6
       refine rEw ?_
       refine ⟨(ic ++ [x0], ml ++ [a], cq ++ [b], wm ++ [d], g4), lf0, ?_, v0⟩
       ·
        refine ⟨by show (ic ++ [x0]).length ≤ _; simp; omega, ⟨by simp [hml], by simp [hcq], by simp [hwm]⟩, ?_⟩
        show (ic ++ [x0], ml ++ [a], cq ++ [b], wm ++ [d], g4) = boxI c.boxes n g (ic ++ [x0]).length
        rw [len_snoc, boxI, ← kbt, ← qBn]
        dsimp only
        rw [qx0, qg3, ← hae, ← kma]
    ·
     try simp at hc2
     replace F := F.add hc2
     refine W.exit ?_
     refine hK4 _ ?_
     clear hK5 K5 hK4 K4
     refine rK [6] ?_
     refine W.ret ?_
     refine er false [9000, 9048, 9056, 9064, 9072] [(10000, 10000)] ?_
     have e1 : ic.length = c.boxes.length := by omega
     rw [hhn] at kla
     rw [e1] at kbt
     rw [truthD, ← kla]
     dsimp only
     rw [← kbt]
     try rw [List.take_of_length_le (show ml.length ≤ ic.length by omega), List.take_of_length_le (show cq.length ≤ ic.length by omega), List.take_of_length_le (show wm.length ≤ ic.length by omega)]
     exact ⟨rfl, rfl⟩
theorem truthOf_ok (f : Int) (c : Cel) (hv : ValidC c) (n : Nat) (hn : n ≤ 1000) : ACalls Try.prog 50 [.ptr 10000 0 0, celV c, I n] [(10000, die f)] (fun r o => ∃ z : Tru × Int, r = trueV z.1 ∧ o = [(10000, die z.2)] ∧ TruOk c n z.1) :=
  (truthOf_det f c hv n hn).mono fun _ _ h => ⟨truthD f c n, h.1, h.2, truthD_ok hv f n⟩
end Go.Sim
