/- Cellars and lots made of numbers. -/
import Derived.Test.YtfenmmjeppehaaaLf
namespace Go.Sim
open Go.Proofs
set_option maxRecDepth 100000
set_option linter.unusedSimpArgs false
set_option linter.unusedVariables false
attribute [-simp] List.map_set List.map_take List.map_drop
theorem Cast_E (f n : Int) (h1 : 1 ≤ n) (hn : n < 9223372036854775808) : ACalls Try.prog 19 [.ptr 10000 0 0, I n] [(10000, die f)] (fun r o => ∃ z : Int × Int, r = I z.1 ∧ o = [(10000, die z.2)] ∧ (0 ≤ z.1 ∧ z.1 ≤ n - 1)) :=
  (Cast_ok f n hn).mono fun _ _ h => ⟨(castV f n, castF f n), h.1, h.2, castV_lo f n, castV_le f n h1⟩
theorem From_E (f lo hi : Int) (hlh : lo ≤ hi) (h1 : -1000000000000 ≤ lo) (h2 : hi ≤ 1000000000000) : ACalls Try.prog 20 [.ptr 10000 0 0, I lo, I hi] [(10000, die f)] (fun r o => ∃ z : Int × Int, r = I z.1 ∧ o = [(10000, die z.2)] ∧ (lo ≤ z.1 ∧ z.1 ≤ hi)) :=
  (From_ok f lo hi h1 (by omega) (by omega) h2).mono fun _ _ h => ⟨(fromV f lo hi, fromF f lo hi), h.1, h.2, fromV_range f hlh⟩
theorem One_E (f : Int) (l : List Int) (h0 : l ≠ []) (hl : l.length < 9223372036854775808) : ACalls Try.prog 21 [.ptr 10000 0 0, ints l] [(10000, die f)] (fun r o => ∃ z : Int × Int, r = I z.1 ∧ o = [(10000, die z.2)] ∧ z.1 ∈ l) :=
  (One_ok f l hl).mono fun _ _ h => ⟨(oneV f l, oneF f l), h.1, h.2, oneV_mem f l h0⟩
noncomputable def spnD (f lo hi : Int) : Spn := ⟨fromV f lo hi, fromV (oneF (fromF f lo hi) [fromV f lo hi, min hi (fromV f lo hi + 4), hi]) (fromV f lo hi) (oneV (fromF f lo hi) [fromV f lo hi, min hi (fromV f lo hi + 4), hi])⟩
noncomputable def spnF (f lo hi : Int) : Int := fromF (oneF (fromF f lo hi) [fromV f lo hi, min hi (fromV f lo hi + 4), hi]) (fromV f lo hi) (oneV (fromF f lo hi) [fromV f lo hi, min hi (fromV f lo hi + 4), hi])
theorem spnD_range (f : Int) {lo hi : Int} (h : lo ≤ hi) : lo ≤ (spnD f lo hi).lo ∧ (spnD f lo hi).lo ≤ (spnD f lo hi).hi ∧ (spnD f lo hi).hi ≤ hi := by
  have h1 := fromV_range f h
  have h2 := oneV_mem (fromF f lo hi) [fromV f lo hi, min hi (fromV f lo hi + 4), hi] (by simp)
  simp only [List.mem_cons, List.not_mem_nil, or_false] at h2
  have h3 := fromV_range (oneF (fromF f lo hi) [fromV f lo hi, min hi (fromV f lo hi + 4), hi]) (lo := fromV f lo hi) (hi := oneV (fromF f lo hi) [fromV f lo hi, min hi (fromV f lo hi + 4), hi]) (by omega)
  unfold spnD
  simp only
  omega
set_option maxHeartbeats 4000000 in
theorem Span_ok (f lo hi : Int) (hlh : lo ≤ hi) (h1 : -1000000 ≤ lo) (h2 : hi ≤ 1000000) : ACalls Try.prog 66 [.ptr 10000 0 0, I lo, I hi] [(10000, die f)] (fun r o => r = .agg [I (spnD f lo hi).lo, I (spnD f lo hi).hi] ∧ o = [(10000, die (spnF f lo hi))]) := by
 have F := Fx.nil
 replace F := F.add hlh |>.add h1 |>.add h2
 refine ent Try.func66 Try.ntmps66 Try.results66 ?_
 obtain ⟨n, qn⟩ : ∃ n, fromV f lo hi = n := ⟨_, rfl⟩
 obtain ⟨g, qg⟩ : ∃ g, fromF f lo hi = g := ⟨_, rfl⟩
 have hn := qn
 have hg2 := qg
 have qnr : lo ≤ n ∧ n ≤ hi := by rw [← qn]; exact fromV_range f hlh
 obtain ⟨m, qm⟩ : ∃ m, m = min hi (n + 4) := ⟨_, rfl⟩
 have hm1 : (if hi < n + 4 then hi else n + 4) = m := by split <;> omega
 have hm2 : (if n + 4 < hi then n + 4 else hi) = m := by split <;> omega
 have qmo := oneV_mem g [n, m, hi] (by simp)
 simp only [List.mem_cons, List.not_mem_nil, or_false] at qmo
 obtain ⟨x, qx⟩ : ∃ x, oneV g [n, m, hi] = x := ⟨_, rfl⟩
 obtain ⟨g2, qg2⟩ : ∃ g2, oneF g [n, m, hi] = g2 := ⟨_, rfl⟩
 have hx := qx
 have hg3 := qg2
 have qxr : n ≤ x ∧ x ≤ hi := by rw [← qx]; omega
 replace F := F.add hn |>.add hg2 |>.add hm1 |>.add hm2 |>.add hx |>.add hg3
 refine rK [0, 1, 2, 6] ?_
 refine W.seqR ?_
 refine oN 3 ?_
 refine oC [(10000, 10000)] ?_
 refine ct (From_ok _ _ _ (by omega) (by omega) (by omega) (by omega)) ?_
 refine oN 1 ?_
 refine oK [0, 2, 6, 7] ?_
 refine W.seqR ?_
 refine oNw 8 ?_
 refine oC [(10000, 10000)] ?_
 refine ct (One_ok g [n, m, hi] (by simp)) ?_
 refine oN 1 ?_
 refine oK [0, 6, 7, 8] ?_
 refine W.seqR ?_
 refine oN 4 ?_
 refine oC [(10000, 10000)] ?_
 refine ct (From_ok _ _ _ (by omega) (by omega) (by omega) (by omega)) ?_
 refine oN 2 ?_
 refine oK [6] ?_
 refine W.ret ?_
 refine er false [] [(10000, 10000)] ?_
 have e1 : spnD f lo hi = ⟨n, fromV g2 n x⟩ := by rw [spnD, qn, qg, ← qm, qx, qg2]
 have e2 : spnF f lo hi = fromF g2 n x := by rw [spnF, qn, qg, ← qm, qx, qg2]
 rw [e1, e2]; exact ⟨rfl, rfl⟩
theorem Span_E (f lo hi : Int) (hlh : lo ≤ hi) (h1 : -1000000 ≤ lo) (h2 : hi ≤ 1000000) : ACalls Try.prog 66 [.ptr 10000 0 0, I lo, I hi] [(10000, die f)] (fun r o => ∃ z : Spn × Int, r = .agg [I z.1.lo, I z.1.hi] ∧ o = [(10000, die z.2)] ∧ (lo ≤ z.1.lo ∧ z.1.lo ≤ z.1.hi ∧ z.1.hi ≤ hi)) :=
  (Span_ok f lo hi hlh h1 h2).mono fun _ _ h => ⟨(spnD f lo hi, spnF f lo hi), h.1, h.2, spnD_range f hlh⟩
structure MadeC (c : Cel) (p q : Nat) : Prop where
  ok : ValidC c
  bx : c.boxes.length ≤ p
  fl : c.fils.length ≤ q
  hall : -20 ≤ c.hall.lo
  room : ∀ b ∈ c.boxes, b.room ≤ 500
theorem boxOk_mk {rm : Int} {ice melt cld wrm : Spn} (h1 : 1 ≤ rm ∧ rm ≤ 500) (h2 : 0 ≤ ice.lo ∧ ice.lo ≤ ice.hi ∧ ice.hi ≤ rm) (h3 : 0 ≤ melt.lo ∧ melt.lo ≤ melt.hi ∧ melt.hi ≤ 126) (h4 : -50 ≤ cld.lo ∧ cld.lo ≤ cld.hi ∧ cld.hi ≤ 30) (h5 : cld.hi ≤ wrm.lo ∧ wrm.lo ≤ wrm.hi ∧ wrm.hi ≤ cld.hi + 120) : BoxOk ⟨rm, ice, melt, cld, wrm⟩ ∧ rm ≤ 500 :=
  ⟨⟨⟨by dsimp only; omega, by dsimp only; omega⟩, h2, ⟨h3.1, h3.2.1, by dsimp only; omega⟩, ⟨by dsimp only; omega, h4.2.1, by dsimp only; omega⟩, ⟨by dsimp only; omega, h5.2.1, by dsimp only; omega⟩, h5.1⟩, h1.2⟩
theorem filOk_mk {n : Nat} {b h g : Int} (h1 : 0 ≤ b ∧ b < n) (h2 : 0 ≤ h ∧ h ≤ 239) (h3 : 0 ≤ g ∧ g ≤ 100000) : FilOk n ⟨b, h, g⟩ := ⟨h1, h2, h3⟩
theorem ratOk_mk {a l : Int} (h1 : -300 ≤ a ∧ a ≤ 400) (h2 : 0 ≤ l ∧ l ≤ 1000) : RatOk ⟨a, l⟩ := ⟨h1, h2⟩
theorem len_snoc {α : Type} {l : List α} {x : α} : (l ++ [x]).length = l.length + 1 := by simp
theorem snoc_adj {α : Type} [NthD α] {R : α → α → Prop} {l : List α} {x : α} (h : ∀ i, i + 1 < l.length → R (nth l i) (nth l (i + 1))) (hx : ∀ y, l.getLast? = some y → R y x) : ∀ i, i + 1 < (l ++ [x]).length → R (nth (l ++ [x]) i) (nth (l ++ [x]) (i + 1)) := by
  intro i hi
  rw [List.length_append, List.length_cons, List.length_nil] at hi
  have e1 : nth (l ++ [x]) i = nth l i := by rw [nth_get (by rw [List.length_append, List.length_cons, List.length_nil]; omega), nth_get (show i < l.length by omega), List.getElem_append_left]
  by_cases h2 : i + 1 < l.length
  · have e2 : nth (l ++ [x]) (i + 1) = nth l (i + 1) := by rw [nth_get (by rw [List.length_append, List.length_cons, List.length_nil]; omega), nth_get h2, List.getElem_append_left]
    rw [e1, e2]; exact h i h2
  · have h3 : i + 1 = l.length := by omega
    have e2 : nth (l ++ [x]) (i + 1) = x := by
      rw [nth_get (by rw [List.length_append, List.length_cons, List.length_nil]; omega), List.getElem_append_right (by omega)]; simp [h3]
    rw [e1, e2]
    refine hx _ ?_
    rw [List.getLast?_eq_getElem?, nth_get (show i < l.length by omega), show l.length - 1 = i by omega]
    exact List.getElem?_eq_getElem _
theorem last_snoc {α : Type} {l : List α} {x y : α} (h : (l ++ [x]).getLast? = some y) : y = x := by simpa using h.symm
set_option maxHeartbeats 4000000 in
theorem CellarOf_ok (f : Int) (p q : Nat) (hp : p ≤ 6) (hq : q ≤ 20) : ACalls Try.prog 17 [.ptr 10000 0 0, I p, I q] [(10000, die f)] (fun r o => ∃ z : Cel × Int, r = celV z.1 ∧ o = [(10000, die z.2)] ∧ MadeC z.1 p q) := by
 have F := Fx.nil
 replace F := F.add hp |>.add hq
 refine ent Try.func17 Try.ntmps17 Try.results17 ?_
 refine rK [0, 1, 2, 6] ?_
 refine W.seqR ?_
 refine oN 1 ?_
 refine oC [(10000, 10000)] ?_
 refine CallT.mkE (Span_E f (-20) 200 (by omega) (by omega) (by omega)) (fun z17 hz17 => ⟨(by simp [hp, hq]), ?_⟩)
 refine WOps.norm (by simp [hp, hq]; rfl) ?_
 refine oN 3 ?_
 refine oK [0, 1, 2, 6, 7] ?_
 refine W.seqk fun K1 hK1 => ?_
 refine W.seqR ?_
 refine oNw 3 ?_
 refine oC [(10000, 10000)] ?_
 refine CallT.mkE (Cast_E z17.2 ((p : Int) + 1) (by omega) (by omega)) (fun z22 hz22 => ⟨(by simp [hp, hq]), ?_⟩)
 obtain ⟨m, qm⟩ : ∃ m : Nat, z22.1 = (m : Int) := ⟨z22.1.toNat, by omega⟩
 have hmq := qm
 have hmp : m ≤ p := by omega
 replace F := F.add hmq |>.add hmp
 refine WOps.norm (by simp [hp, hq, hmq, hmp]; rfl) ?_
 refine oN 1 ?_
 refine oK [0, 2, 6, 7, 8] ?_
 refine W.block ?_
 refine sno 56 0 2 9000 56 9 ?_
 refine lpa (α := List CBox × Int × Nat) [0, 2, 6, 7] [9, 29, 30, 31, 36, 43, 44, 45, 49, 59, 64, 65] [56, 9000, 10000] (fun x => [(8, I x.2.2)]) (fun x => [(56, .row false 28 5 [.agg [I z17.1.lo, I z17.1.hi, .own 9000 0 x.1.length, .val (.slice none 0 0), .val (.slice none 0 0)]]), (9000, .row true 56 9 (x.1.map B9)), (10000, die x.2.1)]) (fun x => (∀ b ∈ x.1, BoxOk b ∧ b.room ≤ 500) ∧ x.1.length + x.2.2 = m) (fun x => x.2.2) ([], z22.2, m) ?_ ?_
 ·
  first
  | exact ⟨fun b hb => (by cases hb), by show 0 + m = m; omega⟩
  | exact ⟨⟨fun b hb => (by cases hb), fun i hi => (by cases hi), fun y hy => (by cases hy)⟩, ⟨by show (0 : Int) ≤ 0; omega, by show (0 : Int) + 5 * (m2 : Int) ≤ 5 * m2; omega⟩, by show 0 + m2 = m2; omega⟩
  | exact ⟨⟨fun b hb => (by cases hb), fun i hi => (by cases hi), fun y hy => (by cases hy)⟩, ⟨by show -60 ≤ z108.1; omega, by show z108.1 + 60 * (m3 : Int) ≤ 20 + 60 * m3; omega⟩, ⟨by show 0 ≤ z110.1; omega, by show z110.1 + 7 * (m3 : Int) ≤ 2 + 7 * m3; omega⟩, by show 0 + m3 = m3; omega⟩
 ·
  intro ⟨bs, g, i⟩ hI0
  simp only [List.cons_append, List.nil_append]
  try dsimp only at hI0
  obtain ⟨kbs, hlen⟩ := hI0
  replace F := F.add hlen
  refine W.seqk fun K2 hK2 => ?_
  refine rK [0, 2, 6, 7, 8, 24] ?_
  refine it (fun hc1 => ?_) (fun hc1 => ?_)
  ·
   try simp at hc1
   replace F := F.add hc1
   refine W.skip ?_
   refine hK2 _ ?_
   clear hK2 K2
   refine W.seqk fun K3 hK3 => ?_
   refine W.block ?_
   have him : ((i : Nat) : Int) - 1 = ((i - 1 : Nat) : Int) := by omega
   replace F := F.add him
   refine W.seqR ?_
   refine oN 3 ?_
   refine oC [(10000, 10000)] ?_
   refine CallT.mkE (One_E g [30, 500] (by simp) (by simp)) (fun z30 hz30 => ⟨(by simp [hp, hq, hmq, hmp, hlen, hc1, him]), ?_⟩)
   have qz : z30.1 = 30 ∨ z30.1 = 500 := by simpa using hz30
   refine WOps.norm (by simp [hp, hq, hmq, hmp, hlen, hc1, him]; rfl) ?_
   refine oC [(10000, 10000)] ?_
   refine CallT.mkE (From_E z30.2 1 z30.1 (by omega) (by omega) (by omega)) (fun z31 hz31 => ⟨(by simp [hp, hq, hmq, hmp, hlen, hc1, him]), ?_⟩)
   refine WOps.norm (by simp [hp, hq, hmq, hmp, hlen, hc1, him]; rfl) ?_
   refine oN 3 ?_
   refine oK [0, 2, 6, 7, 8, 9] ?_
   obtain ⟨rm, qrm⟩ : ∃ rm, rm = z31.1 := ⟨_, rfl⟩
   have hrm : z31.1 = rm := qrm.symm
   have hrm1 : 1 ≤ rm ∧ rm ≤ 500 := by omega
   obtain ⟨ice, qice⟩ : ∃ ice, ice = spnD z31.2 0 rm := ⟨_, rfl⟩
   have qicr : 0 ≤ ice.lo ∧ ice.lo ≤ ice.hi ∧ ice.hi ≤ rm := by rw [qice]; exact spnD_range _ (by omega)
   have hice : spnD z31.2 0 rm = ice := qice.symm
   obtain ⟨g1, qg1⟩ : ∃ g1, spnF z31.2 0 rm = g1 := ⟨_, rfl⟩
   have hg1 := qg1
   obtain ⟨k, qk⟩ : ∃ k, k = 1 + rm.tdiv 4 := ⟨_, rfl⟩
   have hk1 : 1 + rm.tdiv 4 = k := qk.symm
   have qkr : 1 ≤ k ∧ k ≤ 126 := by
     have : rm.tdiv 4 = rm / 4 := Int.tdiv_eq_ediv_of_nonneg (by omega)
     omega
   have qtd : 0 ≤ rm.tdiv 4 ∧ rm.tdiv 4 ≤ 125 := by omega
   have qmo := oneV_mem g1 [2, k] (by simp)
   simp only [List.mem_cons, List.not_mem_nil, or_false] at qmo
   obtain ⟨y, qy⟩ : ∃ y, oneV g1 [2, k] = y := ⟨_, rfl⟩
   obtain ⟨g2, qg2⟩ : ∃ g2, oneF g1 [2, k] = g2 := ⟨_, rfl⟩
   have hy := qy
   have hg2 := qg2
   have qyr : 1 ≤ y ∧ y ≤ 126 := by rw [← qy]; omega
   obtain ⟨melt, qmelt⟩ : ∃ melt, melt = spnD g2 0 y := ⟨_, rfl⟩
   have hmelt : spnD g2 0 y = melt := qmelt.symm
   have qmr : 0 ≤ melt.lo ∧ melt.lo ≤ melt.hi ∧ melt.hi ≤ y := by rw [qmelt]; exact spnD_range _ (by omega)
   obtain ⟨g3, qg3⟩ : ∃ g3, spnF g2 0 y = g3 := ⟨_, rfl⟩
   have hg3 := qg3
   replace F := F.add hrm |>.add hrm1 |>.add hice |>.add hg1 |>.add hk1 |>.add hy |>.add hg2 |>.add hmelt |>.add hg3
   refine wD 14 [(3, [10000]), (11, [10000]), (12, [10000])] [[], [], [1], [1, 2, 0], [], [], [], [6], [6, 7], [7, 6, 8], [8, 6, 7, 9], [0, 2, 1, 3, 9, 7, 6, 8, 10, 5], [5, 10, 8, 6, 7, 9, 3, 1, 2, 0, 11, 4], [7, 6, 3, 2, 1, 0], [4, 11, 9, 8, 10, 5, 12, 0, 1, 2, 3, 6, 7, 13], [14, 13, 12, 11, 10, 9, 8, 7, 6, 5, 4, 3, 2, 1, 0], [0, 1, 2, 3, 4, 5, 6, 7, 8, 9, 10, 11, 12, 13, 14, 15]] ?_
   refine dB [([34, 35, 37, 38, 39, 40, 41, 42, 43], [], []), ([33, 37, 38, 39, 40, 41, 42, 43], [false], []), ([33, 37, 38, 39, 40, 41, 42, 43], [false, true], [])] 11 3 ?_
   refine dC [37, 38, 39, 40, 41, 42, 43] [true, true, true] [] [(10000, 10000)] ?_
   refine cd (Span_ok z31.2 0 rm (by omega) (by omega) (by omega)) ?_
   refine dBw [([33, 34, 35, 36, 38, 39, 40, 41, 42, 43, 44, 46], [false, false, false, false], [10000, 10000]), ([33, 34, 35, 36, 37, 39, 40, 41, 42, 43, 46], [false, false, false, false, false], [10000]), ([33, 34, 35, 36, 37, 38], [false, false, false, false, false, false], [10000]), ([33, 34, 35, 36, 37, 38], [false, false, false, false, false, false, true], [10000]), ([33, 34, 35, 36, 37, 38, 46], [false, false, false, false, false, false, true, true], [10000]), ([33, 34, 35, 36, 37, 38, 46], [false, false, false, false, false, false, true, true, true], [10000]), ([33, 34, 35, 36, 37, 38, 46], [false, false, false, false, false, false, true, true, true, true], [10000])] 3 11 ?_
   refine dC [37, 46] [true, true, true, true, false, true, true, true, true, true, true] [] [(10000, 10000)] ?_
   refine cd (One_ok g1 [2, k] (by simp)) ?_
   refine dC [46] [true, true, true, true, true, true, true, true, true, true, true, true] [] [(10000, 10000)] ?_
   refine cd (Span_ok g2 0 y (by omega) (by omega) (by omega)) ?_
   refine dB [([37, 38, 41, 42, 43, 44, 45], [true, true, true, true, false, false, true, true, false, false, false, false, false], [10000, 10000])] 0 14 ?_
   refine dD ?_
   refine oN 3 ?_
   refine oK [0, 2, 6, 7, 8, 9] ?_
   refine W.seqR ?_
   refine oN 1 ?_
   refine oC [(10000, 10000)] ?_
   refine CallT.mkE (Span_E g3 (-50) 30 (by omega) (by omega) (by omega)) (fun z49 hz49 => ⟨(by simp [hp, hq, hmq, hmp, hlen, hc1, him, hrm, hrm1, hice, hg1, hk1, hy, hg2, hmelt, hg3]), ?_⟩)
   refine WOps.norm (by simp [hp, hq, hmq, hmp, hlen, hc1, him, hrm, hrm1, hice, hg1, hk1, hy, hg2, hmelt, hg3]; rfl) ?_
   refine oN 2 ?_
   refine oK [0, 2, 6, 7, 8, 9] ?_
   refine W.seqR ?_
   refine oNw 8 ?_
   refine oC [(10000, 10000)] ?_
   refine CallT.mkE (Span_E z49.2 z49.1.hi (z49.1.hi + 120) (by omega) (by omega) (by omega)) (fun z59 hz59 => ⟨(by simp [hp, hq, hmq, hmp, hlen, hc1, him, hrm, hrm1, hice, hg1, hk1, hy, hg2, hmelt, hg3]), ?_⟩)
   refine WOps.norm (by simp [hp, hq, hmq, hmp, hlen, hc1, him, hrm, hrm1, hice, hg1, hk1, hy, hg2, hmelt, hg3]; rfl) ?_
   refine oN 2 ?_
   refine oK [0, 2, 6, 7, 8, 9] ?_
   refine rEw ?_
   refine hK3 _ ?_
   clear hK3 K3
   refine rEw ?_
   refine ⟨(bs ++ [⟨rm, ice, melt, z49.1, z59.1⟩], z59.2, i - 1), lf0, ?_, ?_⟩
   ·
    refine ⟨fun b hb => ?_, by show (bs ++ [_]).length + (i - 1) = m; rw [len_snoc]; omega⟩
    rcases List.mem_append.1 hb with h | h
    · exact kbs b h
    · obtain rfl := List.mem_singleton.1 h
      exact boxOk_mk hrm1 qicr (by omega) (by omega) (by omega)
   ·
    show i - 1 < i
    omega
  ·
   try simp at hc1
   replace F := F.add hc1
   refine W.exit ?_
   refine hK1 _ ?_
   clear hK2 K2 hK1 K1
   refine rK [0, 2, 6, 7, 10] ?_
   refine W.seqk fun K4 hK4 => ?_
   refine W.seqR ?_
   refine oNw 3 ?_
   refine oC [(10000, 10000)] ?_
   refine CallT.mkE (Cast_E g ((q : Int) + 1) (by omega) (by omega)) (fun z70 hz70 => ⟨(by simp [hp, hq, hmq, hmp, hlen, hc1]), ?_⟩)
   obtain ⟨m2, qm2⟩ : ∃ m : Nat, z70.1 = (m : Int) := ⟨z70.1.toNat, by omega⟩
   have hm2 := qm2
   have hm2q : m2 ≤ q := by omega
   have hbl6 : bs.length ≤ 6 := by omega
   replace F := F.add hm2 |>.add hm2q |>.add hbl6
   refine WOps.norm (by simp [hp, hq, hmq, hmp, hlen, hc1, hm2, hm2q, hbl6]; rfl) ?_
   refine oN 1 ?_
   refine oK [0, 6, 7, 10, 11] ?_
   refine W.block ?_
   refine sno 56 0 3 9008 105 3 ?_
   refine lpa (α := List Fil × Int × Int × Nat) [0, 6, 7] [76, 83, 88, 89, 102, 104, 105] [56, 9008, 10000] (fun x => [(10, I x.2.1), (11, I x.2.2.2)]) (fun x => [(56, .row false 28 5 [.agg [I z17.1.lo, I z17.1.hi, .own 9000 0 bs.length, .own 9008 0 x.1.length, .val (.slice none 0 0)]]), (9008, .row true 105 3 (x.1.map F3)), (10000, die x.2.2.1)]) (fun x => ((∀ f ∈ x.1, FilOk bs.length f) ∧ (∀ i, i + 1 < x.1.length → (nth x.1 i).hour ≤ (nth x.1 (i + 1)).hour) ∧ (∀ y, x.1.getLast? = some y → y.hour ≤ x.2.1)) ∧ (0 ≤ x.2.1 ∧ x.2.1 + 5 * (x.2.2.2 : Int) ≤ 5 * (m2 : Int)) ∧ x.1.length + x.2.2.2 = m2) (fun x => x.2.2.2) ([], 0, z70.2, m2) ?_ ?_
   ·
    first
    | exact ⟨fun b hb => (by cases hb), by show 0 + m = m; omega⟩
    | exact ⟨⟨fun b hb => (by cases hb), fun i hi => (by cases hi), fun y hy => (by cases hy)⟩, ⟨by show (0 : Int) ≤ 0; omega, by show (0 : Int) + 5 * (m2 : Int) ≤ 5 * m2; omega⟩, by show 0 + m2 = m2; omega⟩
    | exact ⟨⟨fun b hb => (by cases hb), fun i hi => (by cases hi), fun y hy => (by cases hy)⟩, ⟨by show -60 ≤ z108.1; omega, by show z108.1 + 60 * (m3 : Int) ≤ 20 + 60 * m3; omega⟩, ⟨by show 0 ≤ z110.1; omega, by show z110.1 + 7 * (m3 : Int) ≤ 2 + 7 * m3; omega⟩, by show 0 + m3 = m3; omega⟩
   ·
    intro ⟨fs, hr, g4, j⟩ hI1
    simp only [List.cons_append, List.nil_append]
    try dsimp only at hI1
    obtain ⟨kfs, hhr, hfl⟩ := hI1
    replace F := F.add hhr |>.add hfl
    refine W.seqk fun K5 hK5 => ?_
    refine W.seqR ?_
    refine oN 3 ?_
    refine gX ?_
    refine gX ?_
    refine gX ?_
    refine gX ?_
    refine oN 1 ?_
    refine oK [0, 6, 7, 10, 11, 78] ?_
    refine it (fun hc2 => ?_) (fun hc2 => ?_)
    ·
     try simp at hc2
     replace F := F.add hc2
     refine W.skip ?_
     refine hK5 _ ?_
     clear hK5 K5
     refine W.seqk fun K6 hK6 => ?_
     refine W.block ?_
     have hjm : ((j : Nat) : Int) - 1 = ((j - 1 : Nat) : Int) := by omega
     have hj0 : 0 < j := by omega
     have hb0 : 0 < bs.length := by omega
     replace F := F.add hjm |>.add hj0 |>.add hb0
     refine W.seqR ?_
     refine oN 2 ?_
     refine oC [(10000, 10000)] ?_
     refine CallT.mkE (Cast_E g4 6 (by omega) (by omega)) (fun z83 hz83 => ⟨(by simp [hp, hq, hmq, hmp, hlen, hc1, hm2, hm2q, hbl6, hhr, hfl, hc2, hjm, hj0, hb0]), ?_⟩)
     refine WOps.norm (by simp [hp, hq, hmq, hmp, hlen, hc1, hm2, hm2q, hbl6, hhr, hfl, hc2, hjm, hj0, hb0]; rfl) ?_
     refine oNw 2 ?_
     refine oK [0, 6, 7, 10, 11] ?_
     refine W.seqR ?_
     refine oN 4 ?_
     refine oC [(10000, 10000)] ?_
     refine CallT.mkE (Cast_E z83.2 (bs.length : Int) (by omega) (by omega)) (fun z89 hz89 => ⟨(by simp [hp, hq, hmq, hmp, hlen, hc1, hm2, hm2q, hbl6, hhr, hfl, hc2, hjm, hj0, hb0]), ?_⟩)
     refine WOps.norm (by simp [hp, hq, hmq, hmp, hlen, hc1, hm2, hm2q, hbl6, hhr, hfl, hc2, hjm, hj0, hb0]; rfl) ?_
     refine oN 1 ?_
     refine oK [0, 6, 7, 10, 11, 12] ?_
     obtain ⟨bx, qbx⟩ : ∃ bx : Nat, z89.1 = (bx : Int) := ⟨z89.1.toNat, by omega⟩
     have hbx := qbx
     have hbxl : bx < bs.length := by omega
     have hbxi : (bx : Int) < bs.length := by omega
     have qbk := kbs _ (List.getElem_mem hbxl)
     have qbr := qbk.1.room
     obtain ⟨gr, qgr⟩ : ∃ gr, castV z89.2 (bs[bx].room + 5) = gr := ⟨_, rfl⟩
     obtain ⟨g5, qg5⟩ : ∃ g5, castF z89.2 (bs[bx].room + 5) = g5 := ⟨_, rfl⟩
     have hgr := qgr
     have hg5 := qg5
     have qgrr : 0 ≤ gr ∧ gr ≤ 504 := by
       have h1 := castV_lo z89.2 (bs[bx].room + 5)
       have h2 := castV_le z89.2 (bs[bx].room + 5) (by omega)
       omega
     replace F := F.add hbx |>.add hbxl |>.add hbxi |>.add hgr |>.add hg5
     refine wDe 15 [(12, [10000])] [[], [0], [], [], [], [], [5], [], [7, 5, 6], [6, 5, 7, 8], [8, 7, 5, 6, 9], [9, 6, 5, 7, 8, 10], [10, 8, 7, 5, 6, 9, 11, 4], [4, 11, 9, 6, 5, 7, 8, 10, 12, 3, 2], [2, 3, 12, 10, 8, 7, 5, 6, 9, 11, 4, 13], [13, 4, 11, 9, 6, 5, 7, 8, 10, 12, 3, 2, 14, 0, 1], [15, 14, 13, 12, 11, 10, 9, 8, 7, 6, 5, 4, 3, 2, 1, 0], [0, 1, 2, 3, 4, 5, 6, 7, 8, 9, 10, 11, 12, 13, 14, 15, 16]] ?_
     refine dBw [([92, 93, 94, 95, 96, 97, 98, 99, 100, 101, 102, 103, 104], [], [10000]), ([92, 93, 94, 95, 96, 97, 98, 99, 100, 101, 102, 103, 104], [true], [10000]), ([90, 91, 93, 94, 95, 96, 97, 98, 99, 100, 101, 102], [false, false], [10000]), ([90, 91, 92, 94, 95, 96, 97, 98, 99, 100, 101, 102], [false, false, false], [10000]), ([90, 91, 92, 93, 95, 96, 97, 98, 99, 100, 101], [false, false, false, false], []), ([90, 91, 92, 93, 94, 97], [false, false, false, false, false], []), ([90, 91, 92, 93, 94, 97], [false, false, false, false, false, true], []), ([90, 91, 92, 93, 94, 95, 96], [false, false, false, false, false, false, false], []), ([90, 91, 92, 93, 94], [false, false, false, false, false, true, true, true], []), ([90, 91, 92, 93, 94], [false, false, false, false, false, true, true, true, true], []), ([90, 91, 92, 93, 94], [false, false, false, false, false, true, true, true, true, true], []), ([90, 91, 92, 93, 94], [false, false, false, false, false, true, true, true, true, true, true], [])] 3 12 ?_
     refine dC [90, 91, 92, 93] [false, false, false, false, true, true, true, true, true, true, true, true] [] [(10000, 10000)] ?_
     refine cd (Cast_ok z89.2 (bs[bx].room + 5) (by omega)) ?_
     refine dB [([90, 91], [false, false, true, true, true, true, true, true, true, true, true, true, true], []), ([90, 91], [false, false, true, true, true, true, true, true, true, true, true, true, true, true], [])] 0 15 ?_
     refine dD ?_
     refine oNw 3 ?_
     refine WOps.endK ?_
     refine hK6 _ ?_
     clear hK6 K6
     refine rEw ?_
     refine ⟨(fs ++ [⟨bx, hr + z83.1, gr⟩], hr + z83.1, g5, j - 1), lf0, ?_, ?_⟩
     ·
      obtain ⟨k1, k2, k3⟩ := kfs
      refine ⟨⟨fun x hx => ?_, snoc_adj (R := fun (a b : Fil) => a.hour ≤ b.hour) k2 (fun y hy => ?_), fun y hy => ?_⟩, ?_, ?_⟩
      · rcases List.mem_append.1 hx with h | h
        · exact k1 x h
        · obtain rfl := List.mem_singleton.1 h
          exact filOk_mk (by omega) (by omega) (by omega)
      · show y.hour ≤ hr + z83.1
        have := k3 y hy; omega
      · obtain rfl := last_snoc hy
        show hr + z83.1 ≤ hr + z83.1
        omega
      · show 0 ≤ hr + z83.1 ∧ hr + z83.1 + 5 * ((j - 1 : Nat) : Int) ≤ 5 * (m2 : Int)
        omega
      · show (fs ++ [_]).length + (j - 1) = m2
        rw [len_snoc]; omega
     ·
      show j - 1 < j
      omega
    ·
     try simp at hc2
     replace F := F.add hc2
     refine W.exit ?_
     refine hK4 _ ?_
     clear hK5 K5 hK4 K4
     refine W.seqR ?_
     refine oN 1 ?_
     refine oC [(10000, 10000)] ?_
     refine CallT.mkE (From_E g4 (-60) 20 (by omega) (by omega) (by omega)) (fun z108 hz108 => ⟨(by simp [hp, hq, hmq, hmp, hlen, hc1, hm2, hm2q, hbl6, hhr, hfl, hc2]), ?_⟩)
     refine WOps.norm (by simp [hp, hq, hmq, hmp, hlen, hc1, hm2, hm2q, hbl6, hhr, hfl, hc2]; rfl) ?_
     refine oN 1 ?_
     refine oC [(10000, 10000)] ?_
     refine CallT.mkE (Cast_E z108.2 3 (by omega) (by omega)) (fun z110 hz110 => ⟨(by simp [hp, hq, hmq, hmp, hlen, hc1, hm2, hm2q, hbl6, hhr, hfl, hc2]), ?_⟩)
     refine WOps.norm (by simp [hp, hq, hmq, hmp, hlen, hc1, hm2, hm2q, hbl6, hhr, hfl, hc2]; rfl) ?_
     refine oN 2 ?_
     refine oK [0, 6, 7, 13, 14] ?_
     refine W.seqk fun K7 hK7 => ?_
     refine W.seqR ?_
     refine oN 1 ?_
     refine oC [(10000, 10000)] ?_
     refine CallT.mkE (From_E z110.2 1 4 (by omega) (by omega) (by omega)) (fun z112 hz112 => ⟨(by simp [hp, hq, hmq, hmp, hlen, hc1, hm2, hm2q, hbl6, hhr, hfl, hc2]), ?_⟩)
     obtain ⟨m3, qm3⟩ : ∃ m : Nat, z112.1 = (m : Int) := ⟨z112.1.toNat, by omega⟩
     have hm3 := qm3
     have hm34 : 1 ≤ m3 ∧ m3 ≤ 4 := by omega
     replace F := F.add hm3 |>.add hm34
     refine WOps.norm (by simp [hp, hq, hmq, hmp, hlen, hc1, hm2, hm2q, hbl6, hhr, hfl, hc2, hm3, hm34]; rfl) ?_
     refine oN 1 ?_
     refine oK [0, 6, 7, 13, 14, 15] ?_
     refine W.block ?_
     refine sno 56 0 4 9016 107 2 ?_
     refine lpa (α := List Rat × Int × Int × Int × Nat) [0, 6, 7] [122, 123, 127, 131] [56, 9016, 10000] (fun x => [(13, I x.2.1), (14, I x.2.2.1), (15, I x.2.2.2.2)]) (fun x => [(56, .row false 28 5 [.agg [I z17.1.lo, I z17.1.hi, .own 9000 0 bs.length, .own 9008 0 fs.length, .own 9016 0 x.1.length]]), (9016, .row true 107 2 (x.1.map R2)), (10000, die x.2.2.2.1)]) (fun x => ((∀ r ∈ x.1, RatOk r) ∧ (∀ i, i + 1 < x.1.length → (nth x.1 i).above < (nth x.1 (i + 1)).above ∧ (nth x.1 i).loss ≤ (nth x.1 (i + 1)).loss) ∧ (∀ y, x.1.getLast? = some y → y.above < x.2.1 ∧ y.loss ≤ x.2.2.1)) ∧ (-60 ≤ x.2.1 ∧ x.2.1 + 60 * (x.2.2.2.2 : Int) ≤ 20 + 60 * (m3 : Int)) ∧ (0 ≤ x.2.2.1 ∧ x.2.2.1 + 7 * (x.2.2.2.2 : Int) ≤ 2 + 7 * (m3 : Int)) ∧ x.1.length + x.2.2.2.2 = m3) (fun x => x.2.2.2.2) ([], z108.1, z110.1, z112.2, m3) ?_ ?_
     ·
      first
      | exact ⟨fun b hb => (by cases hb), by show 0 + m = m; omega⟩
      | exact ⟨⟨fun b hb => (by cases hb), fun i hi => (by cases hi), fun y hy => (by cases hy)⟩, ⟨by show (0 : Int) ≤ 0; omega, by show (0 : Int) + 5 * (m2 : Int) ≤ 5 * m2; omega⟩, by show 0 + m2 = m2; omega⟩
      | exact ⟨⟨fun b hb => (by cases hb), fun i hi => (by cases hi), fun y hy => (by cases hy)⟩, ⟨by show -60 ≤ z108.1; omega, by show z108.1 + 60 * (m3 : Int) ≤ 20 + 60 * m3; omega⟩, ⟨by show 0 ≤ z110.1; omega, by show z110.1 + 7 * (m3 : Int) ≤ 2 + 7 * m3; omega⟩, by show 0 + m3 = m3; omega⟩
     ·
      intro ⟨rs, ab, ls, g6, k⟩ hI2
      simp only [List.cons_append, List.nil_append]
      try dsimp only at hI2
      obtain ⟨krs, hab, hls, hrl⟩ := hI2
      replace F := F.add hab |>.add hls |>.add hrl
      refine W.seqk fun K8 hK8 => ?_
      refine rK [0, 6, 7, 13, 14, 15, 114] ?_
      refine it (fun hc3 => ?_) (fun hc3 => ?_)
      ·
       try simp at hc3
       replace F := F.add hc3
       refine W.skip ?_
       refine hK8 _ ?_
       clear hK8 K8
       refine W.seqk fun K9 hK9 => ?_
       refine W.block ?_
       have hkm : ((k : Nat) : Int) - 1 = ((k - 1 : Nat) : Int) := by omega
       have hk0 : 0 < k := by omega
       replace F := F.add hkm |>.add hk0
       refine rKw [0, 6, 7, 13, 14, 15] ?_
       refine W.region ?_
       refine oN 2 ?_
       refine oC [(10000, 10000)] ?_
       refine CallT.mkE (From_E g6 1 60 (by omega) (by omega) (by omega)) (fun z127 hz127 => ⟨(by simp [hp, hq, hmq, hmp, hlen, hc1, hm2, hm2q, hbl6, hhr, hfl, hc2, hm3, hm34, hab, hls, hrl, hc3, hkm, hk0]), ?_⟩)
       refine WOps.norm (by simp [hp, hq, hmq, hmp, hlen, hc1, hm2, hm2q, hbl6, hhr, hfl, hc2, hm3, hm34, hab, hls, hrl, hc3, hkm, hk0]; rfl) ?_
       refine oNw 3 ?_
       refine oC [(10000, 10000)] ?_
       refine CallT.mkE (Cast_E z127.2 8 (by omega) (by omega)) (fun z131 hz131 => ⟨(by simp [hp, hq, hmq, hmp, hlen, hc1, hm2, hm2q, hbl6, hhr, hfl, hc2, hm3, hm34, hab, hls, hrl, hc3, hkm, hk0]), ?_⟩)
       refine WOps.norm (by simp [hp, hq, hmq, hmp, hlen, hc1, hm2, hm2q, hbl6, hhr, hfl, hc2, hm3, hm34, hab, hls, hrl, hc3, hkm, hk0]; rfl) ?_
       refine oNw 3 ?_
       refine WOps.endK ?_
       refine hK9 _ ?_
       clear hK9 K9
       refine rEw ?_
       refine ⟨(rs ++ [⟨ab, ls⟩], ab + z127.1, ls + z131.1, z131.2, k - 1), lf0, ?_, ?_⟩
       ·
        obtain ⟨k1, k2, k3⟩ := krs
        refine ⟨⟨fun x hx => ?_, snoc_adj (R := fun (a b : Rat) => a.above < b.above ∧ a.loss ≤ b.loss) k2 (fun y hy => ?_), fun y hy => ?_⟩, ?_, ?_, ?_⟩
        · rcases List.mem_append.1 hx with h | h
          · exact k1 x h
          · obtain rfl := List.mem_singleton.1 h
            exact ratOk_mk (by omega) (by omega)
        · exact k3 y hy
        · obtain rfl := last_snoc hy
          exact ⟨by show ab < ab + z127.1; omega, by show ls ≤ ls + z131.1; omega⟩
        · show -60 ≤ ab + z127.1 ∧ ab + z127.1 + 60 * ((k - 1 : Nat) : Int) ≤ 20 + 60 * (m3 : Int)
          omega
        · show 0 ≤ ls + z131.1 ∧ ls + z131.1 + 7 * ((k - 1 : Nat) : Int) ≤ 2 + 7 * (m3 : Int)
          omega
        · show (rs ++ [_]).length + (k - 1) = m3
          rw [len_snoc]; omega
       ·
        show k - 1 < k
        omega
      ·
       try simp at hc3
       replace F := F.add hc3
       refine W.exit ?_
       refine hK7 _ ?_
       clear hK8 K8 hK7 K7
       refine rK [6] ?_
       refine W.ret ?_
       refine er false [9000, 9008, 9016] [(10000, 10000)] ?_
       obtain ⟨k1, k2, k3⟩ := krs
       exact ⟨(⟨z17.1, bs, fs, rs⟩, g6), rfl, rfl, ⟨⟨by show -300 ≤ z17.1.lo ∧ z17.1.lo ≤ z17.1.hi ∧ z17.1.hi ≤ 400; omega, by show bs.length ≤ 6; omega, fun b hb => (kbs b hb).1, by show fs.length ≤ 20; omega, kfs.1, kfs.2.1, by show 0 < rs.length; omega, by show rs.length ≤ 6; omega, k1, k2⟩, by show bs.length ≤ p; omega, by show fs.length ≤ q; omega, by show -20 ≤ z17.1.lo; omega, fun b hb => (kbs b hb).2⟩⟩
end Go.Sim
