/- The edges of what may truly be; what is truly lost. -/
import Derived.Test.YtfenmmjeppehaaaLt
import Derived.Test.YtfenmmjeppehaaaLd
namespace Go.Sim
open Go.Proofs
set_option maxRecDepth 100000
set_option linter.unusedSimpArgs false
set_option linter.unusedVariables false
attribute [-simp] List.map_set List.map_take List.map_drop
def endV (x : Spn) (least : Bool) : Int := if least = true then x.lo else x.hi
def edgeT (c : Cel) (n : Nat) (k : Bool) : Tru := ⟨c.boxes.map (fun b => endV b.ice (!k)), c.boxes.map (fun b => List.replicate n (endV b.melt k)), c.boxes.map (fun b => List.replicate n (endV b.cld k)), c.boxes.map (fun b => List.replicate n (endV b.wrm k)), List.replicate n (endV c.hall k)⟩
set_option maxHeartbeats 4000000 in
theorem end_ok (x : Spn) (b : Bool) : ACalls Try.prog 95 [spnV x, B b] [] (fun r o => r = I (endV x b) ∧ o = []) := by
 have F := Fx.nil
 refine ent Try.func95 Try.ntmps95 Try.results95 ?_
 refine rK [1, 2] ?_
 refine W.seqk fun K1 hK1 => ?_
 refine rK [2, 5] ?_
 refine it (fun hc1 => ?_) (fun hc1 => ?_)
 ·
  try simp at hc1
  replace F := F.add hc1
  refine rK [4] ?_
  refine W.ret ?_
  refine tr ?_
  clear hK1 K1
  refine er false [] [] ?_
  (subst_vars; first | exact ⟨rfl, rfl⟩ | (simp_all [endV]; done))
 ·
  try simp at hc1
  replace F := F.add hc1
  refine W.skip ?_
  refine hK1 _ ?_
  clear hK1 K1
  refine rK [4] ?_
  refine W.ret ?_
  refine er false [] [] ?_
  (subst_vars; first | exact ⟨rfl, rfl⟩ | (simp_all [endV]; done))
def IsRep (v : Int) (l : List Int) : Prop := l = List.replicate l.length v
theorem rep_snoc {v : Int} {l : List Int} (h : IsRep v l) : IsRep v (l ++ [v]) := by
  unfold IsRep at *
  rw [List.length_append, List.length_cons, List.length_nil, List.replicate_succ', ← h]
theorem rep_eq {v : Int} {l : List Int} {n : Nat} (h : IsRep v l) (hn : l.length = n) : l = List.replicate n v := by rw [← hn]; exact h
theorem take_map_snoc {α β : Type} (f : α → β) {l : List α} {i : Nat} {m : List β} {x : β} (hm : m = (l.take i).map f) (hi : i < l.length) (hx : x = f l[i]) : m ++ [x] = (l.take (i + 1)).map f := by
  rw [List.take_succ_eq_append_getElem hi, List.map_append, hm, hx]; rfl
theorem edgeT_ok {c : Cel} (hv : ValidC c) (n : Nat) (k : Bool) : TruOk c n (edgeT c n k) := by
  have inn : ∀ {x : Spn} {j : Bool}, x.lo ≤ x.hi → InL x n (List.replicate n (endV x j)) := fun {x j} h => ⟨List.length_replicate, fun y hy => by
    rw [(List.mem_replicate.1 hy).2]; cases j <;> simp [endV] <;> omega⟩
  refine ⟨inn hv.hall.2.1, by simp [edgeT], ⟨by simp [edgeT], fun b hb => ?_⟩⟩
  have hb' : b < c.boxes.length := by simpa [edgeT] using hb
  have q := hv.box hb'
  have q1 := q.ice; have q2 := q.melt; have q3 := q.cld; have q4 := q.wrm
  unfold edgeT BoxTru
  have e : ∀ {α : Type} [NthD α] (f : CBox → α), nth (c.boxes.map f) b = f (nth c.boxes b) := fun f => by rw [nth_get (by simpa using hb'), List.getElem_map, nth_get hb']
  simp only [e]
  exact ⟨by cases k <;> simp [endV] <;> omega, inn q2.2.1, inn q3.2.1, inn q4.2.1⟩
def EdgeB (c : Cel) (n : Nat) (k : Bool) (m : Nat) (ic : List Int) (ml cq wm : List (List Int)) : Prop := ic = (c.boxes.take m).map (fun b => endV b.ice (!k)) ∧ ml = (c.boxes.take m).map (fun b => List.replicate n (endV b.melt k)) ∧ cq = (c.boxes.take m).map (fun b => List.replicate n (endV b.cld k)) ∧ wm = (c.boxes.take m).map (fun b => List.replicate n (endV b.wrm k))
set_option maxHeartbeats 4000000 in
theorem edge_ok (c : Cel) (hv : ValidC c) (n : Nat) (hn : n ≤ 1000) (k : Bool) : ACalls Try.prog 54 [celV c, I n, B k] [] (fun r o => r = trueV (edgeT c n k) ∧ o = []) := by
 refine ACalls.lenA (xs := [I c.hall.lo, I c.hall.hi, boxesV c.boxes, filsV c.fils, ratsV c.rats]) (l := c.boxes.map B9) (by simp) (by simp) ⟨_, Try.func54, by kernel_rfl, by kernel_rfl⟩ fun hl1 => ?_
 simp [maxLen_val] at hl1
 have F := Fx.nil
 replace F := F.add hn
 refine ent Try.func54 Try.ntmps54 Try.results54 ?_
 have hb6 := hv.b6
 replace F := F.add hb6
 refine rK [1, 2, 3, 6] ?_
 refine rK [1, 2, 3, 6, 7] ?_
 refine W.seqk fun K1 hK1 => ?_
 refine rK [1, 2, 3, 6, 7, 8] ?_
 refine W.block ?_
 refine sno 56 0 4 9000 3 1 ?_
 refine lpa (α := List Int) [1, 2, 3, 6, 7] [26, 27, 28] [56, 9000] (fun x => [(8, I x.length)]) (fun x => [(56, .row false 77 5 [.agg [.val (.slice none 0 0), .val (.slice none 0 0), .val (.slice none 0 0), .val (.slice none 0 0), .own 9000 0 x.length]]), (9000, .row true 3 1 (x.map I))]) (fun x => x.length ≤ n ∧ IsRep (endV c.hall k) x) (fun x => n - x.length) [] ?_ ?_
 ·
  first
  | exact ⟨Nat.zero_le _, rfl⟩
  | exact ⟨Nat.zero_le _, ⟨rfl, rfl, rfl, rfl⟩⟩
  | exact ⟨Nat.zero_le _, rfl, rfl, rfl, rfl, rfl⟩
 ·
  intro lh hI0
  simp only [List.cons_append, List.nil_append]
  try dsimp only at hI0
  obtain ⟨hhl, qla⟩ := hI0
  replace F := F.add hhl
  refine W.seqk fun K2 hK2 => ?_
  refine rK [1, 2, 3, 6, 7, 8, 18] ?_
  refine it (fun hc1 => ?_) (fun hc1 => ?_)
  ·
   try simp at hc1
   replace F := F.add hc1
   refine W.skip ?_
   refine hK2 _ ?_
   clear hK2 K2
   refine W.seqk fun K3 hK3 => ?_
   refine W.block ?_
   have hn5 : lh.length < n := by omega
   obtain ⟨v, qv⟩ : ∃ v, endV c.hall k = v := ⟨_, rfl⟩
   have hvv := qv
   replace F := F.add hn5 |>.add hvv
   refine wDe 7 [] [[], [0], [], [2], [], [4, 2, 3], [3, 2, 4, 5], [5, 4, 2, 3, 6, 0, 1], [7, 6, 5, 4, 3, 2, 1, 0], [0, 1, 2, 3, 4, 5, 6, 7, 8]] ?_
   refine dB [([23, 24, 25, 26, 27], [], []), ([23, 24, 25, 26, 27], [true], []), ([21, 22, 25], [false, false], []), ([21, 22, 25], [false, false, true], []), ([21, 22, 23, 24], [false, false, false, false], [])] 2 5 ?_
   refine dC [21, 22] [false, false, true, true, true] [] [] ?_
   refine cd (end_ok c.hall k) ?_
   refine dB [([21, 22], [false, false, true, true, true, true], [])] 0 7 ?_
   refine dD ?_
   refine oNw 3 ?_
   refine WOps.endK ?_
   refine hK3 _ ?_
   clear hK3 K3
   refine rEw ?_
   refine ⟨lh ++ [v], lf0, ?_, v0⟩
   ·
    exact ⟨by show (lh ++ [v]).length ≤ n; simp; omega, by rw [← qv]; exact rep_snoc qla⟩
  ·
   try simp at hc1
   replace F := F.add hc1
   refine W.exit ?_
   refine hK1 _ ?_
   clear hK2 K2 hK1 K1
   refine W.seqk fun K4 hK4 => ?_
   refine rK [1, 2, 3, 6, 7, 9] ?_
   refine W.block ?_
   have hhn : lh.length = n := by omega
   have htk : List.take n lh = lh := List.take_of_length_le (by omega)
   replace F := F.add hhn |>.add htk
   refine sno 56 0 0 9048 3 1 ?_
   refine sno 56 0 1 9056 29 1 ?_
   refine sno 56 0 2 9064 29 1 ?_
   refine sno 56 0 3 9072 29 1 ?_
   refine lpa (α := List Int × List (List Int) × List (List Int) × List (List Int)) [1, 2, 3, 6, 7] [10, 33, 48, 49, 50, 61, 62, 63, 68, 69, 70, 75, 76, 77, 81, 82, 86, 87, 91, 92] [56, 9048, 9056, 9064, 9072] (fun x => [(9, I x.1.length)]) (fun x => [(56, .row false 77 5 [.agg [.own 9048 0 x.1.length, .own 9056 0 x.2.1.length, .own 9064 0 x.2.2.1.length, .own 9072 0 x.2.2.2.length, .own 9000 0 lh.length]]), (9048, .row true 3 1 (x.1.map I)), (9056, .row true 29 1 (x.2.1.map ints)), (9064, .row true 29 1 (x.2.2.1.map ints)), (9072, .row true 29 1 (x.2.2.2.map ints))]) (fun x => x.1.length ≤ c.boxes.length ∧ EdgeB c n k x.1.length x.1 x.2.1 x.2.2.1 x.2.2.2) (fun x => c.boxes.length - x.1.length) ([], [], [], []) ?_ ?_
   ·
    first
    | exact ⟨Nat.zero_le _, rfl⟩
    | exact ⟨Nat.zero_le _, ⟨rfl, rfl, rfl, rfl⟩⟩
    | exact ⟨Nat.zero_le _, rfl, rfl, rfl, rfl, rfl⟩
   ·
    intro ⟨ic, ml, cq, wm⟩ hI1
    simp only [List.cons_append, List.nil_append]
    try dsimp only at hI1
    obtain ⟨hil, qbt⟩ := hI1
    replace F := F.add hil
    refine W.seqk fun K5 hK5 => ?_
    refine rK [1, 2, 3, 6, 7, 9, 34] ?_
    refine it (fun hc2 => ?_) (fun hc2 => ?_)
    ·
     try simp at hc2
     replace F := F.add hc2
     refine W.skip ?_
     refine hK5 _ ?_
     clear hK5 K5
     refine W.seqk fun K6 hK6 => ?_
     refine W.block ?_
     have hib : ic.length < c.boxes.length := by omega
     obtain ⟨BX, qBX⟩ : ∃ B, B = c.boxes[ic.length] := ⟨_, rfl⟩
     have hBX := qBX.symm
     have hml : ml.length = ic.length := by rw [qbt.2.1]; simp; omega
     have hcd : cq.length = ic.length := by rw [qbt.2.2.1]; simp; omega
     have hwm : wm.length = ic.length := by rw [qbt.2.2.2]; simp; omega
     obtain ⟨x0, qx0⟩ : ∃ v, endV BX.ice (!k) = v := ⟨_, rfl⟩
     have hx0 := qx0
     replace F := F.add hib |>.add hBX |>.add hml |>.add hcd |>.add hwm |>.add hx0
     refine rK [1, 2, 3, 6, 7, 9, 10] ?_
     refine wD 8 [] [[], [0], [], [2], [], [4], [4, 5, 2, 3], [3, 2, 5, 4, 6], [6, 4, 5, 2, 3, 7, 0, 1], [8, 7, 6, 5, 4, 3, 2, 1, 0], [0, 1, 2, 3, 4, 5, 6, 7, 8, 9]] ?_
     refine dB [([44, 45, 46, 47, 48, 49], [], []), ([44, 45, 46, 47, 48, 49], [true], []), ([42, 43, 46, 47], [false, false], []), ([42, 43, 46, 47], [false, false, true], []), ([42, 43, 44, 45], [false, false, false, false], []), ([42, 43, 44, 45], [false, false, false, false, true], [])] 2 6 ?_
     refine dC [42, 43] [false, false, true, true, true, true] [] [] ?_
     refine cd (end_ok BX.ice (!k)) ?_
     refine dB [([42, 43], [false, false, true, true, true, true, true], [])] 0 8 ?_
     refine dD ?_
     refine oNw 3 ?_
     refine oK [1, 2, 3, 6, 7, 9, 10] ?_
     refine rK [1, 2, 3, 6, 7, 9, 10, 11, 12, 13] ?_
     refine W.seqk fun K7 hK7 => ?_
     refine rK [1, 2, 3, 6, 7, 9, 10, 11, 12, 13, 14] ?_
     refine W.block ?_
     refine sn 11 9008 3 1 ?_
     refine sn 12 9016 3 1 ?_
     refine sn 13 9024 3 1 ?_
     refine lpa (α := List Int × List Int × List Int) [1, 2, 3, 6, 7, 9, 10] [61, 62, 63, 68, 69, 70, 75, 76, 77] [9008, 9016, 9024] (fun x => [(14, I x.1.length), (11, .own 9008 0 x.1.length), (12, .own 9016 0 x.2.1.length), (13, .own 9024 0 x.2.2.length)]) (fun x => [(9008, .row true 3 1 (x.1.map I)), (9016, .row true 3 1 (x.2.1.map I)), (9024, .row true 3 1 (x.2.2.map I))]) (fun x => x.1.length ≤ n ∧ x.2.1.length = x.1.length ∧ x.2.2.length = x.1.length ∧ IsRep (endV BX.melt k) x.1 ∧ IsRep (endV BX.cld k) x.2.1 ∧ IsRep (endV BX.wrm k) x.2.2) (fun x => n - x.1.length) ([], [], []) ?_ ?_
     ·
      first
      | exact ⟨Nat.zero_le _, rfl⟩
      | exact ⟨Nat.zero_le _, ⟨rfl, rfl, rfl, rfl⟩⟩
      | exact ⟨Nat.zero_le _, rfl, rfl, rfl, rfl, rfl⟩
     ·
      intro ⟨a, b, d⟩ hI2
      simp only [List.cons_append, List.nil_append]
      try dsimp only at hI2
      obtain ⟨han, hba, hda, qma, qmb, qmd⟩ := hI2
      replace F := F.add han |>.add hba |>.add hda
      refine W.seqk fun K8 hK8 => ?_
      refine rK [1, 2, 3, 6, 7, 9, 10, 11, 12, 13, 14, 54] ?_
      refine it (fun hc3 => ?_) (fun hc3 => ?_)
      ·
       try simp at hc3
       replace F := F.add hc3
       refine W.skip ?_
       refine hK8 _ ?_
       clear hK8 K8
       refine W.seqk fun K9 hK9 => ?_
       refine W.block ?_
       have hal : a.length < n := by omega
       obtain ⟨v1, qv1⟩ : ∃ v, endV BX.melt k = v := ⟨_, rfl⟩
       obtain ⟨v2, qv2⟩ : ∃ v, endV BX.cld k = v := ⟨_, rfl⟩
       obtain ⟨v3, qv3⟩ : ∃ v, endV BX.wrm k = v := ⟨_, rfl⟩
       have hv1 := qv1
       have hv2 := qv2
       have hv3 := qv3
       replace F := F.add hal |>.add hv1 |>.add hv2 |>.add hv3
       refine wDe 20 [(6, [9008]), (13, [9016])] [[], [], [1], [], [3, 1, 2], [2, 1, 3, 4], [4, 3, 1, 2, 5, 0], [], [], [8], [], [0, 5, 2, 1, 3, 4, 6, 10, 8, 9], [9, 8, 10, 6, 4, 3, 1, 2, 5, 0, 11], [11, 0, 5, 2, 1, 3, 4, 6, 10, 8, 9, 12, 7], [], [], [15], [], [7, 12, 9, 8, 10, 6, 4, 3, 1, 2, 5, 0, 11, 13, 17, 15, 16], [16, 15, 17, 13, 11, 0, 5, 2, 1, 3, 4, 6, 10, 8, 9, 12, 7, 18], [18, 7, 12, 9, 8, 10, 6, 4, 3, 1, 2, 5, 0, 11, 13, 17, 15, 16, 19, 14], [14, 19, 16, 15, 17, 13, 11, 10, 8, 9, 12, 7, 18, 20, 0, 5, 2, 1, 3, 4, 6], [20, 18, 17, 15, 16, 19, 14, 21, 7, 12, 9, 8, 10, 6, 4, 3, 1, 2, 5, 0, 11, 13], [21, 22, 14, 19, 16, 15, 17, 13, 11, 0, 5, 2, 1, 3, 4, 6, 10, 8, 9, 12, 7, 18, 20]] ?_
       refine dB [([58, 59, 60, 61, 62, 64, 65, 66, 67, 71, 72, 73, 74], [], []), ([57, 60, 64, 65, 66, 67, 71, 72, 73, 74], [false], []), ([57, 60, 64, 65, 66, 67, 71, 72, 73, 74], [false, true], []), ([57, 58, 59, 64, 65, 66, 67, 71, 72, 73, 74], [false, false, false], [])] 16 4 ?_
       refine dC [57, 64, 65, 66, 67, 71, 72, 73, 74] [false, true, true, true] [] [] ?_
       refine cd (end_ok BX.melt k) ?_
       refine dB [([57, 64, 65, 66, 67, 71, 72, 73, 74], [false, true, true, true, true], [])] 14 6 ?_
       refine dAw [64, 65, 66, 67, 71, 72, 73, 74] [true, true, true, true, true, true] [] [9008] ?_
       refine dB [([57, 58, 59, 60, 61, 62, 63, 65, 66, 67, 68, 69, 71, 72, 73, 74], [false, false, false, false, false, false, false], [9008]), ([57, 58, 59, 60, 61, 62, 63, 64, 67, 71, 72, 73, 74], [false, false, false, false, false, false, false, false], [9008]), ([57, 58, 59, 60, 61, 62, 63, 64, 67, 71, 72, 73, 74], [false, false, false, false, false, false, false, false, true], [9008]), ([57, 58, 59, 60, 61, 62, 63, 64, 65, 66, 71, 72, 73, 74], [false, false, false, false, false, false, false, false, false, false], [9008])] 9 11 ?_
       refine dC [64, 71, 72, 73, 74] [true, true, true, true, true, true, true, false, true, true, true] [] [] ?_
       refine cd (end_ok BX.cld k) ?_
       refine dB [([64, 71, 72, 73, 74], [true, true, true, true, true, true, true, false, true, true, true, true], [])] 7 13 ?_
       refine dAw [71, 72, 73, 74] [true, true, true, true, true, true, true, true, true, true, true, true, true] [] [9016] ?_
       refine dB [([57, 58, 59, 60, 61, 62, 63, 64, 65, 66, 67, 68, 69, 70, 72, 73, 74, 75, 76], [false, false, false, false, false, false, false, false, false, false, false, false, false, false], [9008, 9016]), ([57, 58, 59, 60, 61, 62, 63, 64, 65, 66, 67, 68, 69, 70, 71, 74], [false, false, false, false, false, false, false, false, false, false, false, false, false, false, false], [9008, 9016]), ([57, 58, 59, 60, 61, 62, 63, 64, 65, 66, 67, 68, 69, 70, 71, 74], [false, false, false, false, false, false, false, false, false, false, false, false, false, false, false, true], [9008, 9016]), ([57, 58, 59, 60, 61, 62, 63, 64, 65, 66, 67, 68, 69, 70, 71, 72, 73], [false, false, false, false, false, false, false, false, false, false, false, false, false, false, false, false, false], [9008, 9016])] 2 18 ?_
       refine dC [71] [true, true, true, true, true, true, true, true, true, true, true, true, true, true, false, true, true, true] [] [] ?_
       refine cd (end_ok BX.wrm k) ?_
       refine dB [([71], [true, true, true, true, true, true, true, true, true, true, true, true, true, true, false, true, true, true, true], [])] 0 20 ?_
       refine dD ?_
       refine WOps.le (Le.exch (x := 504) (y := 9008) (by simp [hn, hb6, hhl, hc1, hhn, htk, hil, hc2, hib, hBX, hml, hcd, hwm, hx0, han, hba, hda, hc3, hal, hv1, hv2, hv3]; rfl)) rfl rfl ?_
       refine WOps.le (Le.exch (x := 560) (y := 9016) (by simp [hn, hb6, hhl, hc1, hhn, htk, hil, hc2, hib, hBX, hml, hcd, hwm, hx0, han, hba, hda, hc3, hal, hv1, hv2, hv3]; rfl)) rfl rfl ?_
       refine oNw 4 ?_
       refine WOps.endK ?_
       refine hK9 _ ?_
       clear hK9 K9
       refine rEw ?_
       refine ⟨(a ++ [v1], b ++ [v2], d ++ [v3]), lf0, ?_, v0⟩
       ·
        exact ⟨by show (a ++ [v1]).length ≤ n; simp; omega, by simp [hba], by simp [hda], by rw [← qv1]; exact rep_snoc qma, by rw [← qv2]; exact rep_snoc qmb, by rw [← qv3]; exact rep_snoc qmd⟩
      ·
       try simp at hc3
       replace F := F.add hc3
       refine W.exit ?_
       refine hK7 _ ?_
       clear hK8 K8 hK7 K7
       have hae : a.length = n := by omega
       have htk1 : List.take n a = a := List.take_of_length_le (by omega)
       have htk2 : List.take n b = b := List.take_of_length_le (by omega)
       have htk3 : List.take n d = d := List.take_of_length_le (by omega)
       replace F := F.add hae |>.add htk1 |>.add htk2 |>.add htk3
       refine W.weaken (Le.freeze (id := 9008) (by simp [hn, hb6, hhl, hc1, hhn, htk, hil, hc2, hib, hBX, hml, hcd, hwm, hx0, han, hba, hda, hc3, hae, htk1, htk2, htk3]; rfl)) ?_
       refine W.weaken (Le.freeze (id := 9016) (by simp [hn, hb6, hhl, hc1, hhn, htk, hil, hc2, hib, hBX, hml, hcd, hwm, hx0, han, hba, hda, hc3, hae, htk1, htk2, htk3]; rfl)) ?_
       refine W.weaken (Le.freeze (id := 9024) (by simp [hn, hb6, hhl, hc1, hhn, htk, hil, hc2, hib, hBX, hml, hcd, hwm, hx0, han, hba, hda, hc3, hae, htk1, htk2, htk3]; rfl)) ?_
       refine wDe 16 [(4, [9056]), (9, [9064]), (14, [9072])] [[], [0], [], [2], [2, 3, 0, 1], [], [5], [], [7], [1, 0, 3, 2, 4, 7, 8, 5, 6], [], [10], [], [12], [6, 5, 8, 7, 4, 2, 3, 0, 1, 9, 12, 13, 10, 11], [11, 10, 6, 5, 4, 3, 2, 1, 0], [13, 12, 9, 7, 8, 14, 0, 1, 2, 3, 4, 5, 6, 10, 11, 15], [14, 12, 13, 16, 15, 11, 10, 9, 8, 7, 6, 5, 4, 3, 2, 1, 0], [0, 1, 2, 3, 4, 5, 6, 7, 8, 9, 10, 11, 15, 16, 13, 12, 14, 17], [18, 17, 16, 15, 14, 13, 12, 11, 10, 9, 8, 7, 6, 5, 4, 3, 2, 1, 0], [0, 1, 2, 3, 4, 5, 6, 7, 8, 9, 10, 11, 12, 13, 14, 15, 16, 17, 18, 19]] ?_
       refine dB [([80, 81, 83, 84, 85, 86, 88, 89, 90, 91], [], []), ([80, 81, 83, 84, 85, 86, 88, 89, 90, 91], [true], []), ([78, 79, 83, 84, 85, 86, 88, 89, 90, 91], [false, false], []), ([78, 79, 83, 84, 85, 86, 88, 89, 90, 91], [false, false, true], [])] 12 4 ?_
       refine dAw [83, 84, 85, 86, 88, 89, 90, 91] [true, true, true, true] [] [9056] ?_
       refine dB [([78, 79, 80, 81, 82, 85, 86, 88, 89, 90, 91], [false, false, false, false, false], [9056]), ([78, 79, 80, 81, 82, 85, 86, 88, 89, 90, 91], [false, false, false, false, false, true], [9056]), ([78, 79, 80, 81, 82, 83, 84, 88, 89, 90, 91, 93], [false, false, false, false, false, false, false], [9056]), ([78, 79, 80, 81, 82, 83, 84, 88, 89, 90, 91, 93], [false, false, false, false, false, false, false, true], [9056])] 7 9 ?_
       refine dAw [88, 89, 90, 91, 93] [true, true, true, true, true, true, true, true, true] [] [9064] ?_
       refine dB [([78, 79, 80, 81, 82, 83, 84, 85, 86, 87, 90, 91], [false, false, false, false, false, false, false, false, false, false], [9056, 9064]), ([78, 79, 80, 81, 82, 83, 84, 85, 86, 87, 90, 91], [false, false, false, false, false, false, false, false, false, false, true], [9056, 9064]), ([78, 79, 80, 81, 82, 83, 84, 85, 86, 87, 88, 89, 93], [false, false, false, false, false, false, false, false, false, false, false, false], [9056, 9064]), ([78, 79, 80, 81, 82, 83, 84, 85, 86, 87, 88, 89, 93], [false, false, false, false, false, false, false, false, false, false, false, false, true], [9056, 9064])] 2 14 ?_
       refine dAw [93] [true, true, true, true, true, true, true, true, true, true, true, true, true, true] [] [9072] ?_
       refine dB [([85, 86, 87, 90, 91, 92], [true, true, true, true, true, true, true, false, false, false, true, true, false, false, false], [9064, 9072])] 0 16 ?_
       refine dD ?_
       refine WOps.le (Le.exch (x := 656) (y := 9056) (by simp [hn, hb6, hhl, hc1, hhn, htk, hil, hc2, hib, hBX, hml, hcd, hwm, hx0, han, hba, hda, hc3, hae, htk1, htk2, htk3]; rfl)) rfl rfl ?_
       refine WOps.le (Le.exch (x := 696) (y := 9064) (by simp [hn, hb6, hhl, hc1, hhn, htk, hil, hc2, hib, hBX, hml, hcd, hwm, hx0, han, hba, hda, hc3, hae, htk1, htk2, htk3]; rfl)) rfl rfl ?_
       refine WOps.le (Le.exch (x := 736) (y := 9072) (by simp [hn, hb6, hhl, hc1, hhn, htk, hil, hc2, hib, hBX, hml, hcd, hwm, hx0, han, hba, hda, hc3, hae, htk1, htk2, htk3]; rfl)) rfl rfl ?_
       refine oN 5 ?_
       refine WOps.endK ?_
       refine hK6 _ ?_
       clear hK6 K6
       refine rEw ?_
       refine ⟨(ic ++ [x0], ml ++ [a], cq ++ [b], wm ++ [d]), lf0, ?_, v0⟩
       ·
        have e1 : (ic ++ [x0]).length = ic.length + 1 := by simp
        refine ⟨by show (ic ++ [x0]).length ≤ _; omega, ?_⟩
        show ic ++ [x0] = (c.boxes.take (ic ++ [x0]).length).map _ ∧ ml ++ [a] = (c.boxes.take (ic ++ [x0]).length).map _ ∧ cq ++ [b] = (c.boxes.take (ic ++ [x0]).length).map _ ∧ wm ++ [d] = (c.boxes.take (ic ++ [x0]).length).map _
        rw [e1]
        exact ⟨take_map_snoc _ qbt.1 hib (by rw [← qBX]; exact qx0.symm), take_map_snoc _ qbt.2.1 hib (by rw [← qBX]; exact rep_eq qma hae), take_map_snoc _ qbt.2.2.1 hib (by rw [← qBX]; exact rep_eq qmb (by omega)), take_map_snoc _ qbt.2.2.2 hib (by rw [← qBX]; exact rep_eq qmd (by omega))⟩
    ·
     try simp at hc2
     replace F := F.add hc2
     refine W.exit ?_
     refine hK4 _ ?_
     clear hK5 K5 hK4 K4
     refine rK [6] ?_
     refine W.ret ?_
     refine er false [9000, 9048, 9056, 9064, 9072] [] ?_
     have e1 : ic.length = c.boxes.length := by omega
     obtain ⟨k1, k2, k3, k4⟩ := qbt
     rw [e1, List.take_length] at k1 k2 k3 k4
     have e2 : edgeT c n k = ⟨ic, ml, cq, wm, lh⟩ := by rw [edgeT, ← k1, ← k2, ← k3, ← k4, ← rep_eq qla hhn]
     rw [e2]
     exact ⟨rfl, rfl⟩
end Go.Sim
