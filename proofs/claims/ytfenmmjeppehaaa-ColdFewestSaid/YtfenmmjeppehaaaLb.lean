/- Cellars: what the reference's Check says. -/
import Derived.Test.YtfenmmjeppehaaaLa
import Derived.Test.YtfenmmjeppehaaaQb
namespace Go.Sim
open Go.Proofs
set_option maxRecDepth 100000
set_option linter.unusedSimpArgs false
set_option linter.unusedVariables false
attribute [-simp] List.map_set List.map_take List.map_drop
def inB (n a b : Int) : Bool := decide (a ≤ n ∧ n ≤ b)
theorem inB_t {n a b : Int} : inB n a b = true ↔ a ≤ n ∧ n ≤ b := by simp [inB]
theorem inB_f {n a b : Int} : inB n a b = false ↔ ¬ (a ≤ n ∧ n ≤ b) := by rw [inB, decide_eq_false_iff_not]
theorem fil_hit {c : Cel} {e : Int} (qf : checkC c = if filsErr c.boxes.length c.fils ≠ 0 then filsErr c.boxes.length c.fils else ratsErr c.rats) (h : filsErr c.boxes.length c.fils = e) (h0 : e ≠ 0) : e = checkC c := by rw [qf, if_pos (by rw [h]; exact h0), h]
set_option maxHeartbeats 4000000 in
theorem within_ok (n a b : Int) : ACalls Try.prog 72 [I n, I a, I b] [] (fun r o => r = B (inB n a b) ∧ o = []) := by
 have F := Fx.nil
 refine ent Try.func72 Try.ntmps72 Try.results72 ?_
 refine rK [0, 1, 2] ?_
 refine W.seqR ?_
 refine oN 4 ?_
 refine gX ?_
 refine gX ?_
 refine gX ?_
 refine oN 2 ?_
 refine oK [6] ?_
 refine W.ret ?_
 refine er false [] [] ?_
 refine ⟨?_, rfl⟩
 unfold inB
 by_cases h1 : a ≤ n <;> by_cases h2 : n ≤ b <;> simp [h1, h2]
set_option maxHeartbeats 4000000 in
theorem rSpan_ok (x : Spn) (a b : Int) : ACalls Try.prog 89 [spnV x, I a, I b] [] (fun r o => r = I (spanErr x a b) ∧ o = []) := by
 have F := Fx.nil
 refine ent Try.func89 Try.ntmps89 Try.results89 ?_
 refine rK [1, 2, 3] ?_
 refine W.seqk fun K1 hK1 => ?_
 by_cases hw : inB x.lo a b = true
 ·
  replace F := F.add hw
  refine W.seqR ?_
  refine oN 4 ?_
  refine oC [] ?_
  refine ct (within_ok _ _ _) ?_
  refine oN 2 ?_
  refine gT ?_
  refine gT ?_
  refine gT ?_
  refine gT ?_
  refine gC [] ?_
  refine ct (within_ok _ _ _) ?_
  refine gT ?_
  refine oN 1 ?_
  refine oK [3, 20] ?_
  refine it (fun hc1 => ?_) (fun hc1 => ?_)
  ·
   try simp at hc1
   replace F := F.add hc1
   refine rK [6] ?_
   refine W.ret ?_
   refine tr ?_
   clear hK1 K1
   refine er false [] [] ?_
   (try simp only [inB_t, inB_f] at *)
   exact ⟨congrArg I (by unfold spanErr; (repeat' split) <;> first | rfl | omega), by trivial⟩
  ·
   try simp at hc1
   replace F := F.add hc1
   refine W.skip ?_
   refine hK1 _ ?_
   clear hK1 K1
   refine W.seqk fun K2 hK2 => ?_
   refine rK [25] ?_
   refine it (fun hc2 => ?_) (fun hc2 => ?_)
   ·
    try simp at hc2
    replace F := F.add hc2
    refine rK [6] ?_
    refine W.ret ?_
    refine tr ?_
    clear hK2 K2
    refine er false [] [] ?_
    (try simp only [inB_t, inB_f] at *)
    exact ⟨congrArg I (by unfold spanErr; (repeat' split) <;> first | rfl | omega), by trivial⟩
   ·
    try simp at hc2
    replace F := F.add hc2
    refine W.skip ?_
    refine hK2 _ ?_
    clear hK2 K2
    refine rK [6] ?_
    refine W.ret ?_
    refine er false [] [] ?_
    (try simp only [inB_t, inB_f] at *)
    exact ⟨congrArg I (by unfold spanErr; (repeat' split) <;> first | rfl | omega), by trivial⟩
 ·
  replace F := F.add hw
  refine W.seqR ?_
  refine oN 4 ?_
  refine oC [] ?_
  refine ct (within_ok _ _ _) ?_
  refine oN 2 ?_
  refine gF ?_
  refine gF ?_
  refine gF ?_
  refine gF ?_
  refine gF ?_
  refine gF ?_
  refine oN 1 ?_
  refine oK [3, 20] ?_
  refine cT ?_
  refine rK [6] ?_
  refine W.ret ?_
  refine tr ?_
  clear hK1 K1
  refine er false [] [] ?_
  (try simp only [inB_t, inB_f] at *)
  exact ⟨congrArg I (by unfold spanErr; (repeat' split) <;> first | rfl | omega), by trivial⟩
set_option maxHeartbeats 4000000 in
theorem rBox_ok (b : CBox) : ACalls Try.prog 90 [B9 b] [] (fun r o => r = I (boxErr b) ∧ o = []) := by
 have F := Fx.nil
 refine ent Try.func90 Try.ntmps90 Try.results90 ?_
 refine rK [1] ?_
 refine W.seqk fun K1 hK1 => ?_
 refine W.seqR ?_
 refine oN 2 ?_
 refine oC [] ?_
 refine ct (within_ok _ _ _) ?_
 refine oN 1 ?_
 refine oK [1, 10] ?_
 refine it (fun hc1 => ?_) (fun hc1 => ?_)
 ·
  try simp at hc1
  replace F := F.add hc1
  refine rK [2] ?_
  refine W.ret ?_
  refine tr ?_
  clear hK1 K1
  refine er false [] [] ?_
  (try simp only [inB_t, inB_f] at *)
  exact ⟨congrArg I (by unfold boxErr; (repeat' split) <;> first | rfl | omega | contradiction), by trivial⟩
 ·
  try simp at hc1
  replace F := F.add hc1
  refine W.skip ?_
  refine hK1 _ ?_
  clear hK1 K1
  refine W.seqk fun K2 hK2 => ?_
  refine W.seqR ?_
  refine oN 4 ?_
  refine oC [] ?_
  refine ct (rSpan_ok ⟨_, _⟩ _ _) ?_
  refine oN 1 ?_
  refine oK [1, 3] ?_
  refine rK [1, 3, 17] ?_
  refine it (fun hc2 => ?_) (fun hc2 => ?_)
  ·
   try simp at hc2
   replace F := F.add hc2
   refine rK [2] ?_
   refine W.ret ?_
   refine tr ?_
   clear hK2 K2
   refine er false [] [] ?_
   (try simp only [inB_t, inB_f] at *)
   exact ⟨congrArg I (by unfold boxErr; (repeat' split) <;> first | rfl | omega | contradiction), by trivial⟩
  ·
   try simp at hc2
   replace F := F.add hc2
   refine W.skip ?_
   refine hK2 _ ?_
   clear hK2 K2
   refine W.seqk fun K3 hK3 => ?_
   refine W.seqR ?_
   refine oN 2 ?_
   refine oC [] ?_
   refine ct (rSpan_ok ⟨_, _⟩ _ _) ?_
   refine oN 1 ?_
   refine oK [1, 4] ?_
   refine rK [1, 4, 23] ?_
   refine it (fun hc3 => ?_) (fun hc3 => ?_)
   ·
    try simp at hc3
    replace F := F.add hc3
    refine rK [2] ?_
    refine W.ret ?_
    refine tr ?_
    clear hK3 K3
    refine er false [] [] ?_
    (try simp only [inB_t, inB_f] at *)
    exact ⟨congrArg I (by unfold boxErr; (repeat' split) <;> first | rfl | omega | contradiction), by trivial⟩
   ·
    try simp at hc3
    replace F := F.add hc3
    refine W.skip ?_
    refine hK3 _ ?_
    clear hK3 K3
    refine W.seqk fun K4 hK4 => ?_
    refine W.seqR ?_
    refine oN 2 ?_
    refine oC [] ?_
    refine ct (rSpan_ok ⟨_, _⟩ _ _) ?_
    refine oN 1 ?_
    refine oK [1, 5] ?_
    refine rK [1, 5, 29] ?_
    refine it (fun hc4 => ?_) (fun hc4 => ?_)
    ·
     try simp at hc4
     replace F := F.add hc4
     refine rK [2] ?_
     refine W.ret ?_
     refine tr ?_
     clear hK4 K4
     refine er false [] [] ?_
     (try simp only [inB_t, inB_f] at *)
     exact ⟨congrArg I (by unfold boxErr; (repeat' split) <;> first | rfl | omega | contradiction), by trivial⟩
    ·
     try simp at hc4
     replace F := F.add hc4
     refine W.skip ?_
     refine hK4 _ ?_
     clear hK4 K4
     refine W.seqk fun K5 hK5 => ?_
     refine W.seqR ?_
     refine oN 2 ?_
     refine oC [] ?_
     refine ct (rSpan_ok ⟨_, _⟩ _ _) ?_
     refine oN 1 ?_
     refine oK [1, 6] ?_
     refine rK [1, 6, 35] ?_
     refine it (fun hc5 => ?_) (fun hc5 => ?_)
     ·
      try simp at hc5
      replace F := F.add hc5
      refine rK [2] ?_
      refine W.ret ?_
      refine tr ?_
      clear hK5 K5
      refine er false [] [] ?_
      (try simp only [inB_t, inB_f] at *)
      exact ⟨congrArg I (by unfold boxErr; (repeat' split) <;> first | rfl | omega | contradiction), by trivial⟩
     ·
      try simp at hc5
      replace F := F.add hc5
      refine W.skip ?_
      refine hK5 _ ?_
      clear hK5 K5
      refine W.seqk fun K6 hK6 => ?_
      refine rK [43] ?_
      refine it (fun hc6 => ?_) (fun hc6 => ?_)
      ·
       try simp at hc6
       replace F := F.add hc6
       refine rK [2] ?_
       refine W.ret ?_
       refine tr ?_
       clear hK6 K6
       refine er false [] [] ?_
       (try simp only [inB_t, inB_f] at *)
       exact ⟨congrArg I (by unfold boxErr; (repeat' split) <;> first | rfl | omega | contradiction), by trivial⟩
      ·
       try simp at hc6
       replace F := F.add hc6
       refine W.skip ?_
       refine hK6 _ ?_
       clear hK6 K6
       refine rK [2] ?_
       refine W.ret ?_
       refine er false [] [] ?_
       (try simp only [inB_t, inB_f] at *)
       exact ⟨congrArg I (by unfold boxErr; (repeat' split) <;> first | rfl | omega | contradiction), by trivial⟩
set_option maxHeartbeats 4000000 in
theorem rCheck_ok (c : Cel) : ACalls Try.prog 44 [celV c] [] (fun r o => r = I (checkC c) ∧ o = []) := by
 refine ACalls.lenA (xs := [I c.hall.lo, I c.hall.hi, boxesV c.boxes, filsV c.fils, ratsV c.rats]) (l := c.boxes.map B9) (by simp) (by simp) ⟨_, Try.func44, by kernel_rfl, by kernel_rfl⟩ fun hl1 => ?_
 simp [maxLen_val] at hl1
 refine ACalls.lenA (xs := [I c.hall.lo, I c.hall.hi, boxesV c.boxes, filsV c.fils, ratsV c.rats]) (l := c.fils.map F3) (by simp) (by simp) ⟨_, Try.func44, by kernel_rfl, by kernel_rfl⟩ fun hl2 => ?_
 simp [maxLen_val] at hl2
 refine ACalls.lenA (xs := [I c.hall.lo, I c.hall.hi, boxesV c.boxes, filsV c.fils, ratsV c.rats]) (l := c.rats.map R2) (by simp) (by simp) ⟨_, Try.func44, by kernel_rfl, by kernel_rfl⟩ fun hl3 => ?_
 simp [maxLen_val] at hl3
 have F := Fx.nil
 refine ent Try.func44 Try.ntmps44 Try.results44 ?_
 refine rK [1] ?_
 refine W.seqk fun K1 hK1 => ?_
 refine W.seqR ?_
 refine oN 2 ?_
 refine oC [] ?_
 refine ct (rSpan_ok ⟨_, _⟩ _ _) ?_
 refine oN 1 ?_
 refine oK [1, 3] ?_
 refine rK [1, 3, 14] ?_
 refine it (fun hc1 => ?_) (fun hc1 => ?_)
 ·
  try simp at hc1
  replace F := F.add hc1
  refine rK [2] ?_
  refine W.ret ?_
  refine tr ?_
  clear hK1 K1
  refine er false [] [] ?_
  (try simp only [inB_t, inB_f] at *)
  exact ⟨congrArg I (checkC_h hc1).symm, by trivial⟩
 ·
  try simp at hc1
  replace F := F.add hc1
  refine W.skip ?_
  refine hK1 _ ?_
  clear hK1 K1
  refine W.seqk fun K2 hK2 => ?_
  refine rK [1, 19] ?_
  refine it (fun hc2 => ?_) (fun hc2 => ?_)
  ·
   try simp at hc2
   replace F := F.add hc2
   refine rK [2] ?_
   refine W.ret ?_
   refine tr ?_
   clear hK2 K2
   refine er false [] [] ?_
   (try simp only [inB_t, inB_f] at *)
   exact ⟨congrArg I (checkC_6 hc1 (by omega)).symm, by trivial⟩
  ·
   try simp at hc2
   replace F := F.add hc2
   refine W.skip ?_
   refine hK2 _ ?_
   clear hK2 K2
   refine W.seqk fun K3 hK3 => ?_
   refine rK [1, 4] ?_
   refine W.block ?_
   refine lpa (α := Nat) [1] [23, 32] [] (fun i => [(4, I i)]) (fun i => []) (fun i => i ≤ c.boxes.length ∧ firstNZ boxErr c.boxes = firstNZ boxErr (c.boxes.drop i)) (fun i => c.boxes.length - i) 0 v0 ?_
   ·
    intro i hI0
    simp only [List.cons_append, List.nil_append]
    try dsimp only at hI0
    obtain ⟨hi, hm1⟩ := hI0
    replace F := F.add hi
    refine W.seqk fun K4 hK4 => ?_
    refine rK [1, 4, 24] ?_
    refine it (fun hc3 => ?_) (fun hc3 => ?_)
    ·
     try simp at hc3
     replace F := F.add hc3
     refine W.skip ?_
     refine hK4 _ ?_
     clear hK4 K4
     refine W.seqk fun K5 hK5 => ?_
     refine W.block ?_
     refine W.seqR ?_
     refine oN 5 ?_
     refine oC [] ?_
     refine ct (rBox_ok ⟨_, ⟨_, _⟩, ⟨_, _⟩, ⟨_, _⟩, ⟨_, _⟩⟩) ?_
     refine oN 1 ?_
     refine oK [1, 4, 5] ?_
     refine rK [1, 4, 5, 34] ?_
     refine it (fun hc4 => ?_) (fun hc4 => ?_)
     ·
      try simp at hc4
      replace F := F.add hc4
      refine rK [2] ?_
      refine W.ret ?_
      refine br (tr (tr (br (tr ?_))))
      clear hK5 K5 hK3 K3
      refine er false [] [] ?_
      (try simp only [inB_t, inB_f] at *)
      exact ⟨congrArg I (checkC_b hc1 (by omega) (by omega) hm1 (by assumption)).symm, by trivial⟩
     ·
      try simp at hc4
      replace F := F.add hc4
      refine W.skip ?_
      refine hK5 _ ?_
      clear hK5 K5
      refine rEw ?_
      refine ⟨i + 1, lf0, ?_, v0⟩
      ·
       (try simp only [inB_t, inB_f] at *)
       exact ⟨by omega, by rw [hm1, firstNZ_skip (by omega) (by assumption)]⟩
    ·
     try simp at hc3
     replace F := F.add hc3
     refine W.exit ?_
     refine hK3 _ ?_
     clear hK4 K4 hK3 K3
     refine W.seqk fun K6 hK6 => ?_
     refine rK [1, 39] ?_
     refine it (fun hc5 => ?_) (fun hc5 => ?_)
     ·
      try simp at hc5
      replace F := F.add hc5
      refine rK [2] ?_
      refine W.ret ?_
      refine tr ?_
      clear hK6 K6
      refine er false [] [] ?_
      (try simp only [inB_t, inB_f] at *)
      exact ⟨congrArg I (fil_hit (checkC_f (by assumption) (by omega) (by omega) hm1) (by rw [filsErr, if_pos (by omega)]) (by decide)), by trivial⟩
     ·
      try simp at hc5
      replace F := F.add hc5
      refine W.skip ?_
      refine hK6 _ ?_
      clear hK6 K6
      refine W.seqk fun K7 hK7 => ?_
      refine rK [1, 6] ?_
      refine W.block ?_
      have qf : checkC c = if filsErr c.boxes.length c.fils ≠ 0 then filsErr c.boxes.length c.fils else ratsErr c.rats := checkC_f (by assumption) (by omega) (by omega) hm1
      refine lpa (α := Nat) [1] [7, 43, 56, 58, 62, 67] [] (fun i => [(6, I i)]) (fun i => []) (fun i => i ≤ c.fils.length ∧ ∀ j, j < i → filErr c.boxes.length c.fils j = 0) (fun i => c.fils.length - i) 0 v0 ?_
      ·
       intro i hI1
       simp only [List.cons_append, List.nil_append]
       try dsimp only at hI1
       obtain ⟨hi2, hm2⟩ := hI1
       replace F := F.add hi2
       refine W.seqk fun K8 hK8 => ?_
       refine rK [1, 6, 44] ?_
       refine it (fun hc6 => ?_) (fun hc6 => ?_)
       ·
        try simp at hc6
        replace F := F.add hc6
        refine W.skip ?_
        refine hK8 _ ?_
        clear hK8 K8
        refine W.seqk fun K9 hK9 => ?_
        refine W.block ?_
        have hil : i < c.fils.length := by omega
        have hib : i - 1 < c.fils.length := by omega
        have qe := filErr_get (n := c.boxes.length) hil hib
        replace F := F.add hil |>.add hib
        refine rK [1, 6, 7] ?_
        refine W.seqk fun K10 hK10 => ?_
        refine W.seqR ?_
        refine oNw 6 ?_
        refine oC [] ?_
        refine ct (within_ok _ _ _) ?_
        refine oN 1 ?_
        refine oK [1, 6, 7, 59] ?_
        refine it (fun hc7 => ?_) (fun hc7 => ?_)
        ·
         try simp at hc7
         replace F := F.add hc7
         refine rK [2] ?_
         refine W.ret ?_
         refine tr (br (tr (tr (br (tr ?_)))))
         clear hK10 K10 hK9 K9 hK7 K7
         refine er false [] [] ?_
         (try simp only [inB_t, inB_f] at *)
         exact ⟨congrArg I (fil_hit qf (filsErr_hit (by omega) hil hm2 (by rw [qe]; (repeat' split) <;> first | rfl | omega) (by decide)) (by decide)), by trivial⟩
        ·
         try simp at hc7
         replace F := F.add hc7
         refine W.skip ?_
         refine hK10 _ ?_
         clear hK10 K10
         refine W.seqk fun K11 hK11 => ?_
         by_cases hw : inB c.fils[i].hour 0 239 = true
         ·
          replace F := F.add hw
          refine W.seqR ?_
          refine oN 2 ?_
          refine oC [] ?_
          refine ct (within_ok _ _ _) ?_
          refine oN 2 ?_
          refine gT ?_
          refine gT ?_
          refine gC [] ?_
          refine ct (within_ok _ _ _) ?_
          refine gT ?_
          refine oN 1 ?_
          refine oK [1, 6, 7, 69] ?_
          refine it (fun hc8 => ?_) (fun hc8 => ?_)
          ·
           try simp at hc8
           replace F := F.add hc8
           refine rK [2] ?_
           refine W.ret ?_
           refine tr (br (tr (tr (br (tr ?_)))))
           clear hK11 K11 hK9 K9 hK7 K7
           refine er false [] [] ?_
           (try simp only [inB_t, inB_f] at *)
           exact ⟨congrArg I (fil_hit qf (filsErr_hit (by omega) hil hm2 (by rw [qe]; (repeat' split) <;> first | rfl | omega) (by decide)) (by decide)), by trivial⟩
          ·
           try simp at hc8
           replace F := F.add hc8
           refine W.skip ?_
           refine hK11 _ ?_
           clear hK11 K11
           by_cases h0 : 0 < i
           ·
            replace F := F.add h0
            have him : (i : Int) - 1 = ((i - 1 : Nat) : Int) := by omega
            replace F := F.add him
            have him : (i : Int) - 1 = ((i - 1 : Nat) : Int) := by omega
            replace F := F.add him
            refine wD 12 [] [[], [0], [0, 1], [1, 0, 2], [2, 0, 1, 3], [1, 0, 2], [2, 0, 1, 5], [1, 0, 2], [2, 0, 1, 7], [7, 8, 5, 1, 0, 2, 6], [6, 2, 0, 1, 5, 8, 7, 9], [9, 7, 8, 5, 1, 0, 2, 6, 10], [10, 6, 5, 8, 7, 9, 11, 3, 1, 0, 2, 4], [4, 3, 11, 9, 7, 8, 5, 6, 10, 12, 1, 0, 2]] ?_
            refine dB [([], [], []), ([], [true], []), ([], [true, true], [])] 9 3 ?_
            refine dT [75, 76, 77, 78, 79, 80, 81] [true, true, true] [] ?_
            refine dT [75, 76, 77, 78, 79, 80, 81] [true, true, true, true] [] ?_
            refine dT [73, 74, 77, 78] [true, true, true, false, false] [] ?_
            refine dT [73, 74, 77, 78] [true, true, true, false, false, true] [] ?_
            refine dT [73, 74, 75, 76] [true, true, true, false, false, false, false] [] ?_
            refine dTw [73, 74, 75, 76] [true, true, true, false, false, false, false, true] [] ?_
            refine dT [73, 74] [true, true, true, false, false, true, true, true, true] [] ?_
            refine dT [73, 74] [true, true, true, false, false, true, true, true, true, true] [] ?_
            refine dT [73, 74] [true, true, true, false, false, true, true, true, true, true, true] [] ?_
            refine dD ?_
            refine gT ?_
            refine oN 1 ?_
            refine oK [1, 6, 83] ?_
            refine it (fun hc9 => ?_) (fun hc9 => ?_)
            ·
             try simp at hc9
             replace F := F.add hc9
             refine rK [2] ?_
             refine W.ret ?_
             refine br (tr (tr (br (tr ?_))))
             clear hK9 K9 hK7 K7
             refine er false [] [] ?_
             (try simp only [inB_t, inB_f] at *)
             exact ⟨congrArg I (fil_hit qf (filsErr_hit (by omega) hil hm2 (by rw [qe]; (repeat' split) <;> first | rfl | omega) (by decide)) (by decide)), by trivial⟩
            ·
             try simp at hc9
             replace F := F.add hc9
             refine W.skip ?_
             refine hK9 _ ?_
             clear hK9 K9
             refine rEw ?_
             refine ⟨i + 1, lf0, ?_, v0⟩
             ·
              (try simp only [inB_t, inB_f] at *)
              exact ⟨by omega, zero_snoc hm2 (by rw [qe]; (repeat' split) <;> first | rfl | omega)⟩
           ·
            replace F := F.add h0
            refine wD 12 [] [[], [0], [0, 1], [1, 0, 2], [2, 0, 1, 3], [1, 0, 2], [2, 0, 1, 5], [1, 0, 2], [2, 0, 1, 7], [7, 8, 5, 1, 0, 2, 6], [6, 2, 0, 1, 5, 8, 7, 9], [9, 7, 8, 5, 1, 0, 2, 6, 10], [10, 6, 5, 8, 7, 9, 11, 3, 1, 0, 2, 4], [4, 3, 11, 9, 7, 8, 5, 6, 10, 12, 1, 0, 2]] ?_
            refine dB [([], [], []), ([], [true], []), ([], [true, true], [])] 9 3 ?_
            refine dF [some 73, some 74, some 75, some 76, some 77, some 78, some 79, some 80, some 81] 2 72 true 0 ?_
            refine dD ?_
            refine gF ?_
            refine oN 1 ?_
            refine oK [1, 6, 83] ?_
            refine cF ?_
            refine W.skip ?_
            refine hK9 _ ?_
            clear hK9 K9
            refine rEw ?_
            refine ⟨i + 1, lf0, ?_, v0⟩
            ·
             (try simp only [inB_t, inB_f] at *)
             exact ⟨by omega, zero_snoc hm2 (by rw [qe]; (repeat' split) <;> first | rfl | omega)⟩
         ·
          replace F := F.add hw
          refine W.seqR ?_
          refine oN 2 ?_
          refine oC [] ?_
          refine ct (within_ok _ _ _) ?_
          refine oN 2 ?_
          refine gF ?_
          refine gF ?_
          refine gF ?_
          refine gF ?_
          refine oN 1 ?_
          refine oK [1, 6, 7, 69] ?_
          refine cT ?_
          refine rK [2] ?_
          refine W.ret ?_
          refine tr (br (tr (tr (br (tr ?_)))))
          clear hK11 K11 hK9 K9 hK7 K7
          refine er false [] [] ?_
          (try simp only [inB_t, inB_f] at *)
          exact ⟨congrArg I (fil_hit qf (filsErr_hit (by omega) hil hm2 (by rw [qe]; (repeat' split) <;> first | rfl | omega) (by decide)) (by decide)), by trivial⟩
       ·
        try simp at hc6
        replace F := F.add hc6
        refine W.exit ?_
        refine hK7 _ ?_
        clear hK8 K8 hK7 K7
        refine W.seqk fun K12 hK12 => ?_
        have qr : checkC c = ratsErr c.rats := by rw [qf, if_neg (fun h => h (filsErr_done (by omega) (by omega) hm2))]
        refine rK [1, 87] ?_
        refine it (fun hc12 => ?_) (fun hc12 => ?_)
        ·
         try simp at hc12
         replace F := F.add hc12
         refine rK [2] ?_
         refine W.ret ?_
         refine tr ?_
         clear hK12 K12
         refine er false [] [] ?_
         (try simp only [inB_t, inB_f] at *)
         exact ⟨congrArg I (qr.trans (by rw [ratsErr, if_pos (by assumption)])).symm, by trivial⟩
        ·
         try simp at hc12
         replace F := F.add hc12
         refine W.skip ?_
         refine hK12 _ ?_
         clear hK12 K12
         refine W.seqk fun K13 hK13 => ?_
         refine rK [1, 91] ?_
         refine it (fun hc13 => ?_) (fun hc13 => ?_)
         ·
          try simp at hc13
          replace F := F.add hc13
          refine rK [2] ?_
          refine W.ret ?_
          refine tr ?_
          clear hK13 K13
          refine er false [] [] ?_
          (try simp only [inB_t, inB_f] at *)
          exact ⟨congrArg I (qr.trans (by rw [ratsErr, if_neg (by assumption), if_pos (by omega)])).symm, by trivial⟩
         ·
          try simp at hc13
          replace F := F.add hc13
          refine W.skip ?_
          refine hK13 _ ?_
          clear hK13 K13
          refine W.seqk fun K14 hK14 => ?_
          refine rK [1, 8] ?_
          refine W.block ?_
          refine lpa (α := Nat) [1] [9, 95, 106, 111] [] (fun i => [(8, I i)]) (fun i => []) (fun i => i ≤ c.rats.length ∧ ∀ j, j < i → ratErr c.rats j = 0) (fun i => c.rats.length - i) 0 v0 ?_
          ·
           intro i hI2
           simp only [List.cons_append, List.nil_append]
           try dsimp only at hI2
           obtain ⟨hi3, hm3⟩ := hI2
           replace F := F.add hi3
           refine W.seqk fun K15 hK15 => ?_
           refine rK [1, 8, 96] ?_
           refine it (fun hc14 => ?_) (fun hc14 => ?_)
           ·
            try simp at hc14
            replace F := F.add hc14
            refine W.skip ?_
            refine hK15 _ ?_
            clear hK15 K15
            refine W.seqk fun K16 hK16 => ?_
            refine W.block ?_
            have hil : i < c.rats.length := by omega
            have hib : i - 1 < c.rats.length := by omega
            have qe := ratErr_get hil hib
            replace F := F.add hil |>.add hib
            refine rK [1, 8, 9] ?_
            refine W.seqk fun K17 hK17 => ?_
            by_cases hw : inB c.rats[i].above (-300) 400 = true
            ·
             replace F := F.add hw
             refine W.seqR ?_
             refine oN 2 ?_
             refine oC [] ?_
             refine ct (within_ok _ _ _) ?_
             refine oN 2 ?_
             refine gT ?_
             refine gT ?_
             refine gC [] ?_
             refine ct (within_ok _ _ _) ?_
             refine gT ?_
             refine oN 1 ?_
             refine oK [1, 8, 9, 113] ?_
             refine it (fun hc15 => ?_) (fun hc15 => ?_)
             ·
              try simp at hc15
              replace F := F.add hc15
              refine rK [2] ?_
              refine W.ret ?_
              refine tr (br (tr (tr (br (tr ?_)))))
              clear hK17 K17 hK16 K16 hK14 K14
              refine er false [] [] ?_
              (try simp only [inB_t, inB_f] at *)
              exact ⟨congrArg I (qr.trans (ratsErr_hit (by omega) hil hm3 (by rw [qe]; (repeat' split) <;> first | rfl | omega) (by decide))).symm, by trivial⟩
             ·
              try simp at hc15
              replace F := F.add hc15
              refine W.skip ?_
              refine hK17 _ ?_
              clear hK17 K17
              by_cases h0 : 0 < i
              ·
               replace F := F.add h0
               have him : (i : Int) - 1 = ((i - 1 : Nat) : Int) := by omega
               replace F := F.add him
               have him : (i : Int) - 1 = ((i - 1 : Nat) : Int) := by omega
               replace F := F.add him
               by_cases hle : c.rats[i].above ≤ c.rats[i - 1].above
               ·
                replace F := F.add hle
                refine wD 23 [] [[], [0], [0, 1], [1, 0, 2], [2, 0, 1, 3], [1, 0, 2], [2, 0, 1, 5], [1, 0, 2], [2, 0, 1, 7], [7, 8, 5, 1, 0, 2, 6], [6, 2, 0, 1, 5, 8, 7, 9], [9, 7, 8, 5, 1, 0, 2, 6, 10], [10, 6, 5, 8, 7, 9, 11, 3, 1, 0, 2, 4], [4, 2, 0, 1, 3, 11, 9, 7, 8, 5, 6, 10, 12], [12, 10, 6, 5, 8, 7, 9, 11, 3, 1, 0, 2, 4, 13], [13, 4, 2, 0, 1, 3, 11, 9, 7, 8, 5, 6, 10, 12, 14], [12, 10, 6, 5, 8, 7, 9, 11, 3, 1, 0, 2, 4, 13], [13, 4, 2, 0, 1, 3, 11, 9, 7, 8, 5, 6, 10, 12, 16], [12, 10, 6, 5, 8, 7, 9, 11, 3, 1, 0, 2, 4, 13], [13, 4, 2, 0, 1, 3, 11, 9, 7, 8, 5, 6, 10, 12, 18], [18, 19, 16, 12, 10, 6, 5, 8, 7, 9, 11, 3, 1, 0, 2, 4, 13, 17], [17, 13, 4, 2, 0, 1, 3, 11, 9, 7, 8, 5, 6, 10, 12, 16, 19, 18, 20], [20, 18, 19, 16, 12, 10, 6, 5, 8, 7, 9, 11, 3, 1, 0, 2, 4, 13, 17, 21], [21, 17, 16, 19, 18, 20, 22, 14, 12, 10, 6, 5, 8, 7, 9, 11, 3, 1, 0, 2, 4, 13, 15], [15, 14, 22, 20, 18, 19, 16, 17, 21, 23, 12, 10, 6, 5, 8, 7, 9, 11, 3, 1, 0, 2, 4, 13], [13, 4, 3, 11, 9, 7, 8, 5, 6, 10, 12, 23, 21, 17, 16, 19, 18, 20, 22, 14, 15, 24, 1, 0, 2]] ?_
                refine dB [([], [], []), ([], [true], []), ([], [true, true], [])] 20 3 ?_
                refine dT [119, 120, 121, 122, 123, 124, 125] [true, true, true] [] ?_
                refine dT [119, 120, 121, 122, 123, 124, 125] [true, true, true, true] [] ?_
                refine dT [117, 118, 121, 122] [true, true, true, false, false] [] ?_
                refine dT [117, 118, 121, 122] [true, true, true, false, false, true] [] ?_
                refine dT [117, 118, 119, 120] [true, true, true, false, false, false, false] [] ?_
                refine dTw [117, 118, 119, 120] [true, true, true, false, false, false, false, true] [] ?_
                refine dT [117, 118] [true, true, true, false, false, true, true, true, true] [] ?_
                refine dT [117, 118] [true, true, true, false, false, true, true, true, true, true] [] ?_
                refine dT [117, 118] [true, true, true, false, false, true, true, true, true, true, true] [] ?_
                refine dT [] [true, true, true, true, true, true, true, true, true, true, true, true] [] ?_
                refine dT [] [true, true, true, true, true, true, true, true, true, true, true, true, true] [] ?_
                refine dF [some 128, some 129, some 130, some 131, some 132, some 133, some 134, some 135, some 136] 13 127 false 0 ?_
                refine dD ?_
                refine gF ?_
                refine gT ?_
                refine oN 1 ?_
                refine oK [1, 8, 139] ?_
                refine cT ?_
                refine rK [2] ?_
                refine W.ret ?_
                refine br (tr (tr (br (tr ?_))))
                clear hK16 K16 hK14 K14
                refine er false [] [] ?_
                (try simp only [inB_t, inB_f] at *)
                exact ⟨congrArg I (qr.trans (ratsErr_hit (by omega) hil hm3 (by rw [qe]; (repeat' split) <;> first | rfl | omega) (by decide))).symm, by trivial⟩
               ·
                replace F := F.add hle
                refine wD 23 [] [[], [0], [0, 1], [1, 0, 2], [2, 0, 1, 3], [1, 0, 2], [2, 0, 1, 5], [1, 0, 2], [2, 0, 1, 7], [7, 8, 5, 1, 0, 2, 6], [6, 2, 0, 1, 5, 8, 7, 9], [9, 7, 8, 5, 1, 0, 2, 6, 10], [10, 6, 5, 8, 7, 9, 11, 3, 1, 0, 2, 4], [4, 2, 0, 1, 3, 11, 9, 7, 8, 5, 6, 10, 12], [12, 10, 6, 5, 8, 7, 9, 11, 3, 1, 0, 2, 4, 13], [13, 4, 2, 0, 1, 3, 11, 9, 7, 8, 5, 6, 10, 12, 14], [12, 10, 6, 5, 8, 7, 9, 11, 3, 1, 0, 2, 4, 13], [13, 4, 2, 0, 1, 3, 11, 9, 7, 8, 5, 6, 10, 12, 16], [12, 10, 6, 5, 8, 7, 9, 11, 3, 1, 0, 2, 4, 13], [13, 4, 2, 0, 1, 3, 11, 9, 7, 8, 5, 6, 10, 12, 18], [18, 19, 16, 12, 10, 6, 5, 8, 7, 9, 11, 3, 1, 0, 2, 4, 13, 17], [17, 13, 4, 2, 0, 1, 3, 11, 9, 7, 8, 5, 6, 10, 12, 16, 19, 18, 20], [20, 18, 19, 16, 12, 10, 6, 5, 8, 7, 9, 11, 3, 1, 0, 2, 4, 13, 17, 21], [21, 17, 16, 19, 18, 20, 22, 14, 12, 10, 6, 5, 8, 7, 9, 11, 3, 1, 0, 2, 4, 13, 15], [15, 14, 22, 20, 18, 19, 16, 17, 21, 23, 12, 10, 6, 5, 8, 7, 9, 11, 3, 1, 0, 2, 4, 13], [13, 4, 3, 11, 9, 7, 8, 5, 6, 10, 12, 23, 21, 17, 16, 19, 18, 20, 22, 14, 15, 24, 1, 0, 2]] ?_
                refine dB [([], [], []), ([], [true], []), ([], [true, true], [])] 20 3 ?_
                refine dT [119, 120, 121, 122, 123, 124, 125] [true, true, true] [] ?_
                refine dT [119, 120, 121, 122, 123, 124, 125] [true, true, true, true] [] ?_
                refine dT [117, 118, 121, 122] [true, true, true, false, false] [] ?_
                refine dT [117, 118, 121, 122] [true, true, true, false, false, true] [] ?_
                refine dT [117, 118, 119, 120] [true, true, true, false, false, false, false] [] ?_
                refine dTw [117, 118, 119, 120] [true, true, true, false, false, false, false, true] [] ?_
                refine dT [117, 118] [true, true, true, false, false, true, true, true, true] [] ?_
                refine dT [117, 118] [true, true, true, false, false, true, true, true, true, true] [] ?_
                refine dT [117, 118] [true, true, true, false, false, true, true, true, true, true, true] [] ?_
                refine dT [] [true, true, true, true, true, true, true, true, true, true, true, true] [] ?_
                refine dT [] [true, true, true, true, true, true, true, true, true, true, true, true, true] [] ?_
                refine dT [130, 131, 132, 133, 134, 135, 136] [true, true, true, true, true, true, true, true, true, true, true, true, true, true] [] ?_
                refine dT [130, 131, 132, 133, 134, 135, 136] [true, true, true, true, true, true, true, true, true, true, true, true, true, true, true] [] ?_
                refine dT [128, 129, 132, 133] [true, true, true, true, true, true, true, true, true, true, true, true, true, true, false, false] [] ?_
                refine dT [128, 129, 132, 133] [true, true, true, true, true, true, true, true, true, true, true, true, true, true, false, false, true] [] ?_
                refine dT [128, 129, 130, 131] [true, true, true, true, true, true, true, true, true, true, true, true, true, true, false, false, false, false] [] ?_
                refine dTw [128, 129, 130, 131] [true, true, true, true, true, true, true, true, true, true, true, true, true, true, false, false, false, false, true] [] ?_
                refine dT [128, 129] [true, true, true, true, true, true, true, true, true, true, true, true, true, true, false, false, true, true, true, true] [] ?_
                refine dT [128, 129] [true, true, true, true, true, true, true, true, true, true, true, true, true, true, false, false, true, true, true, true, true] [] ?_
                refine dT [128, 129] [true, true, true, true, true, true, true, true, true, true, true, true, true, true, false, false, true, true, true, true, true, true] [] ?_
                refine dD ?_
                refine gT ?_
                refine gT ?_
                refine oN 1 ?_
                refine oK [1, 8, 139] ?_
                refine it (fun hc17 => ?_) (fun hc17 => ?_)
                ·
                 try simp at hc17
                 replace F := F.add hc17
                 refine rK [2] ?_
                 refine W.ret ?_
                 refine br (tr (tr (br (tr ?_))))
                 clear hK16 K16 hK14 K14
                 refine er false [] [] ?_
                 (try simp only [inB_t, inB_f] at *)
                 exact ⟨congrArg I (qr.trans (ratsErr_hit (by omega) hil hm3 (by rw [qe]; (repeat' split) <;> first | rfl | omega) (by decide))).symm, by trivial⟩
                ·
                 try simp at hc17
                 replace F := F.add hc17
                 refine W.skip ?_
                 refine hK16 _ ?_
                 clear hK16 K16
                 refine rEw ?_
                 refine ⟨i + 1, lf0, ?_, v0⟩
                 ·
                  (try simp only [inB_t, inB_f] at *)
                  exact ⟨by omega, zero_snoc hm3 (by rw [qe]; (repeat' split) <;> first | rfl | omega)⟩
              ·
               replace F := F.add h0
               refine wD 23 [] [[], [0], [0, 1], [1, 0, 2], [2, 0, 1, 3], [1, 0, 2], [2, 0, 1, 5], [1, 0, 2], [2, 0, 1, 7], [7, 8, 5, 1, 0, 2, 6], [6, 2, 0, 1, 5, 8, 7, 9], [9, 7, 8, 5, 1, 0, 2, 6, 10], [10, 6, 5, 8, 7, 9, 11, 3, 1, 0, 2, 4], [4, 2, 0, 1, 3, 11, 9, 7, 8, 5, 6, 10, 12], [12, 10, 6, 5, 8, 7, 9, 11, 3, 1, 0, 2, 4, 13], [13, 4, 2, 0, 1, 3, 11, 9, 7, 8, 5, 6, 10, 12, 14], [12, 10, 6, 5, 8, 7, 9, 11, 3, 1, 0, 2, 4, 13], [13, 4, 2, 0, 1, 3, 11, 9, 7, 8, 5, 6, 10, 12, 16], [12, 10, 6, 5, 8, 7, 9, 11, 3, 1, 0, 2, 4, 13], [13, 4, 2, 0, 1, 3, 11, 9, 7, 8, 5, 6, 10, 12, 18], [18, 19, 16, 12, 10, 6, 5, 8, 7, 9, 11, 3, 1, 0, 2, 4, 13, 17], [17, 13, 4, 2, 0, 1, 3, 11, 9, 7, 8, 5, 6, 10, 12, 16, 19, 18, 20], [20, 18, 19, 16, 12, 10, 6, 5, 8, 7, 9, 11, 3, 1, 0, 2, 4, 13, 17, 21], [21, 17, 16, 19, 18, 20, 22, 14, 12, 10, 6, 5, 8, 7, 9, 11, 3, 1, 0, 2, 4, 13, 15], [15, 14, 22, 20, 18, 19, 16, 17, 21, 23, 12, 10, 6, 5, 8, 7, 9, 11, 3, 1, 0, 2, 4, 13], [13, 4, 3, 11, 9, 7, 8, 5, 6, 10, 12, 23, 21, 17, 16, 19, 18, 20, 22, 14, 15, 24, 1, 0, 2]] ?_
               refine dB [([], [], []), ([], [true], []), ([], [true, true], [])] 20 3 ?_
               refine dF [some 117, some 118, some 119, some 120, some 121, some 122, some 123, some 124, some 125, some 126, some 127] 2 116 true 9 ?_
               refine dF [some 128, some 129, some 130, some 131, some 132, some 133, some 134, some 135, some 136] 13 127 false 0 ?_
               refine dD ?_
               refine gF ?_
               refine gF ?_
               refine oN 1 ?_
               refine oK [1, 8, 139] ?_
               refine cF ?_
               refine W.skip ?_
               refine hK16 _ ?_
               clear hK16 K16
               refine rEw ?_
               refine ⟨i + 1, lf0, ?_, v0⟩
               ·
                (try simp only [inB_t, inB_f] at *)
                exact ⟨by omega, zero_snoc hm3 (by rw [qe]; (repeat' split) <;> first | rfl | omega)⟩
            ·
             replace F := F.add hw
             refine W.seqR ?_
             refine oN 2 ?_
             refine oC [] ?_
             refine ct (within_ok _ _ _) ?_
             refine oN 2 ?_
             refine gF ?_
             refine gF ?_
             refine gF ?_
             refine gF ?_
             refine oN 1 ?_
             refine oK [1, 8, 9, 113] ?_
             refine cT ?_
             refine rK [2] ?_
             refine W.ret ?_
             refine tr (br (tr (tr (br (tr ?_)))))
             clear hK17 K17 hK16 K16 hK14 K14
             refine er false [] [] ?_
             (try simp only [inB_t, inB_f] at *)
             exact ⟨congrArg I (qr.trans (ratsErr_hit (by omega) hil hm3 (by rw [qe]; (repeat' split) <;> first | rfl | omega) (by decide))).symm, by trivial⟩
           ·
            try simp at hc14
            replace F := F.add hc14
            refine W.exit ?_
            refine hK14 _ ?_
            clear hK15 K15 hK14 K14
            refine rK [2] ?_
            refine W.ret ?_
            refine er false [] [] ?_
            (try simp only [inB_t, inB_f] at *)
            exact ⟨congrArg I (qr.trans (ratsErr_done (by assumption) (by omega) (by omega) hm3)).symm, by trivial⟩
set_option maxHeartbeats 4000000 in
theorem rCheckLot_ok (c : Cel) (l : CLot) : ACalls Try.prog 46 [celV c, lotV l] [] (fun r o => r = I (checkLotC c l) ∧ o = []) := by
 refine ACalls.lenA (xs := [I c.hall.lo, I c.hall.hi, boxesV c.boxes, filsV c.fils, ratsV c.rats]) (l := c.boxes.map B9) (by simp) (by simp) ⟨_, Try.func46, by kernel_rfl, by kernel_rfl⟩ fun hl1 => ?_
 simp [maxLen_val] at hl1
 refine ACalls.lenA (xs := [I l.born, I l.keeps, staysV l.stays]) (l := l.stays.map T3) (by simp) (by simp) ⟨_, Try.func46, by kernel_rfl, by kernel_rfl⟩ fun hl2 => ?_
 simp [maxLen_val] at hl2
 have F := Fx.nil
 refine ent Try.func46 Try.ntmps46 Try.results46 ?_
 refine rK [2, 3] ?_
 refine W.seqk fun K1 hK1 => ?_
 refine W.seqR ?_
 refine oN 1 ?_
 refine oC [] ?_
 refine ct (rCheck_ok ⟨⟨_, _⟩, _, _, _⟩) ?_
 refine oN 1 ?_
 refine oK [2, 3, 5] ?_
 refine rK [2, 3, 5, 12] ?_
 refine it (fun hc1 => ?_) (fun hc1 => ?_)
 ·
  try simp at hc1
  replace F := F.add hc1
  refine rK [4] ?_
  refine W.ret ?_
  refine tr ?_
  clear hK1 K1
  refine er false [] [] ?_
  (try simp only [inB_t, inB_f] at *)
  exact ⟨congrArg I (by rw [checkLotC, if_pos (by assumption)]), by trivial⟩
 ·
  try simp at hc1
  replace F := F.add hc1
  refine W.skip ?_
  refine hK1 _ ?_
  clear hK1 K1
  refine W.seqk fun K2 hK2 => ?_
  by_cases hw0 : inB l.born 0 239 = true
  ·
   replace F := F.add hw0
   refine W.seqR ?_
   refine oN 2 ?_
   refine oC [] ?_
   refine ct (within_ok _ _ _) ?_
   refine oN 2 ?_
   refine gT ?_
   refine gT ?_
   refine gC [] ?_
   refine ct (within_ok _ _ _) ?_
   refine gT ?_
   refine oN 1 ?_
   refine oK [2, 3, 23] ?_
   refine it (fun hc2 => ?_) (fun hc2 => ?_)
   ·
    try simp at hc2
    replace F := F.add hc2
    refine rK [4] ?_
    refine W.ret ?_
    refine tr ?_
    clear hK2 K2
    refine er false [] [] ?_
    (try simp only [inB_t, inB_f] at *)
    exact ⟨congrArg I (by rw [checkLotC, if_neg (fun h => h hc1), lotErr, if_pos (by omega)]), by trivial⟩
   ·
    try simp at hc2
    replace F := F.add hc2
    refine W.skip ?_
    refine hK2 _ ?_
    clear hK2 K2
    refine W.seqk fun K3 hK3 => ?_
    refine rK [2, 3, 27] ?_
    refine it (fun hc3 => ?_) (fun hc3 => ?_)
    ·
     try simp at hc3
     replace F := F.add hc3
     refine rK [4] ?_
     refine W.ret ?_
     refine tr ?_
     clear hK3 K3
     refine er false [] [] ?_
     (try simp only [inB_t, inB_f] at *)
     exact ⟨congrArg I (by rw [checkLotC, if_neg (fun h => h hc1), lotErr, if_neg (by omega), if_pos (by omega)]), by trivial⟩
    ·
     try simp at hc3
     replace F := F.add hc3
     refine W.skip ?_
     refine hK3 _ ?_
     clear hK3 K3
     refine rK [2, 3, 6] ?_
     refine W.seqk fun K4 hK4 => ?_
     refine rK [2, 3, 6, 7] ?_
     refine W.block ?_
     refine lpa (α := Nat × Int) [2, 3] [8, 33, 46, 48, 52, 57] [] (fun x => [(7, I x.1), (6, I x.2)]) (fun x => []) (fun x => x.1 ≤ l.stays.length ∧ staysErr c.boxes.length l.born l.stays = staysErr c.boxes.length x.2 (l.stays.drop x.1)) (fun x => l.stays.length - x.1) (0, l.born) v0 ?_
     ·
      intro ⟨i, fr⟩ hI0
      simp only [List.cons_append, List.nil_append]
      try dsimp only at hI0
      obtain ⟨hi, hm1⟩ := hI0
      replace F := F.add hi
      refine W.seqk fun K5 hK5 => ?_
      refine rK [2, 3, 6, 7, 34] ?_
      refine it (fun hc4 => ?_) (fun hc4 => ?_)
      ·
       try simp at hc4
       replace F := F.add hc4
       refine W.skip ?_
       refine hK5 _ ?_
       clear hK5 K5
       refine W.seqk fun K6 hK6 => ?_
       refine W.block ?_
       have hil : i < l.stays.length := by omega
       have qe := staysErr_get (n := c.boxes.length) (fr := fr) hil
       replace F := F.add hil
       refine rK [2, 3, 6, 7, 8] ?_
       refine W.seqk fun K7 hK7 => ?_
       refine W.seqR ?_
       refine oNw 6 ?_
       refine oC [] ?_
       refine ct (within_ok _ _ _) ?_
       refine oN 1 ?_
       refine oK [2, 3, 6, 7, 8, 49] ?_
       refine it (fun hc5 => ?_) (fun hc5 => ?_)
       ·
        try simp at hc5
        replace F := F.add hc5
        refine rK [4] ?_
        refine W.ret ?_
        refine tr (br (tr (tr (br (tr ?_)))))
        clear hK7 K7 hK6 K6 hK4 K4
        refine er false [] [] ?_
        (try simp only [inB_t, inB_f] at *)
        exact ⟨congrArg I (by rw [checkLotC, if_neg (fun h => h hc1), lotErr, if_neg (by omega), if_neg (by omega), hm1, qe]; (repeat' split) <;> first | rfl | omega), by trivial⟩
       ·
        try simp at hc5
        replace F := F.add hc5
        refine W.skip ?_
        refine hK7 _ ?_
        clear hK7 K7
        refine W.seqk fun K8 hK8 => ?_
        by_cases hw : inB l.stays[i].frm 0 240 = true
        ·
         replace F := F.add hw
         refine W.seqR ?_
         refine oN 2 ?_
         refine oC [] ?_
         refine ct (within_ok _ _ _) ?_
         refine oN 2 ?_
         refine gT ?_
         refine gT ?_
         refine gC [] ?_
         refine ct (within_ok _ _ _) ?_
         refine gT ?_
         refine oN 1 ?_
         refine oK [2, 3, 6, 7, 8, 59] ?_
         refine it (fun hc6 => ?_) (fun hc6 => ?_)
         ·
          try simp at hc6
          replace F := F.add hc6
          refine rK [4] ?_
          refine W.ret ?_
          refine tr (br (tr (tr (br (tr ?_)))))
          clear hK8 K8 hK6 K6 hK4 K4
          refine er false [] [] ?_
          (try simp only [inB_t, inB_f] at *)
          exact ⟨congrArg I (by rw [checkLotC, if_neg (fun h => h hc1), lotErr, if_neg (by omega), if_neg (by omega), hm1, qe]; (repeat' split) <;> first | rfl | omega), by trivial⟩
         ·
          try simp at hc6
          replace F := F.add hc6
          refine W.skip ?_
          refine hK8 _ ?_
          clear hK8 K8
          refine W.seqk fun K9 hK9 => ?_
          by_cases ht : l.stays[i].til ≤ l.stays[i].frm
          ·
           replace F := F.add ht
           refine W.seqR ?_
           refine oN 6 ?_
           refine gF ?_
           refine gF ?_
           refine gF ?_
           refine gF ?_
           refine oN 1 ?_
           refine oK [2, 3, 7, 8, 70] ?_
           refine cT ?_
           refine rK [4] ?_
           refine W.ret ?_
           refine tr (br (tr (tr (br (tr ?_)))))
           clear hK9 K9 hK6 K6 hK4 K4
           refine er false [] [] ?_
           (try simp only [inB_t, inB_f] at *)
           exact ⟨congrArg I (by rw [checkLotC, if_neg (fun h => h hc1), lotErr, if_neg (by omega), if_neg (by omega), hm1, qe]; (repeat' split) <;> first | rfl | omega), by trivial⟩
          ·
           replace F := F.add ht
           refine W.seqR ?_
           refine oN 6 ?_
           refine gT ?_
           refine gT ?_
           refine gT ?_
           refine gT ?_
           refine oN 1 ?_
           refine oK [2, 3, 7, 8, 70] ?_
           refine it (fun hc8 => ?_) (fun hc8 => ?_)
           ·
            try simp at hc8
            replace F := F.add hc8
            refine rK [4] ?_
            refine W.ret ?_
            refine tr (br (tr (tr (br (tr ?_)))))
            clear hK9 K9 hK6 K6 hK4 K4
            refine er false [] [] ?_
            (try simp only [inB_t, inB_f] at *)
            exact ⟨congrArg I (by rw [checkLotC, if_neg (fun h => h hc1), lotErr, if_neg (by omega), if_neg (by omega), hm1, qe]; (repeat' split) <;> first | rfl | omega), by trivial⟩
           ·
            try simp at hc8
            replace F := F.add hc8
            refine W.skip ?_
            refine hK9 _ ?_
            clear hK9 K9
            refine rE ?_
            refine hK6 _ ?_
            clear hK6 K6
            refine rEw ?_
            refine ⟨(i + 1, l.stays[i].til), lf0, ?_, v0⟩
            ·
             (try simp only [inB_t, inB_f] at *)
             exact ⟨by omega, by rw [hm1, qe, if_neg (by omega), if_neg (by omega), if_neg (by omega)]⟩
        ·
         replace F := F.add hw
         refine W.seqR ?_
         refine oN 2 ?_
         refine oC [] ?_
         refine ct (within_ok _ _ _) ?_
         refine oN 2 ?_
         refine gF ?_
         refine gF ?_
         refine gF ?_
         refine gF ?_
         refine oN 1 ?_
         refine oK [2, 3, 6, 7, 8, 59] ?_
         refine cT ?_
         refine rK [4] ?_
         refine W.ret ?_
         refine tr (br (tr (tr (br (tr ?_)))))
         clear hK8 K8 hK6 K6 hK4 K4
         refine er false [] [] ?_
         (try simp only [inB_t, inB_f] at *)
         exact ⟨congrArg I (by rw [checkLotC, if_neg (fun h => h hc1), lotErr, if_neg (by omega), if_neg (by omega), hm1, qe]; (repeat' split) <;> first | rfl | omega), by trivial⟩
      ·
       try simp at hc4
       replace F := F.add hc4
       refine W.exit ?_
       refine hK4 _ ?_
       clear hK5 K5 hK4 K4
       refine rK [4] ?_
       refine W.ret ?_
       refine er false [] [] ?_
       (try simp only [inB_t, inB_f] at *)
       exact ⟨congrArg I (by rw [checkLotC, if_neg (fun h => h hc1), lotErr, if_neg (by omega), if_neg (by omega), hm1, staysErr_done (by omega)]), by trivial⟩
  ·
   replace F := F.add hw0
   refine W.seqR ?_
   refine oN 2 ?_
   refine oC [] ?_
   refine ct (within_ok _ _ _) ?_
   refine oN 2 ?_
   refine gF ?_
   refine gF ?_
   refine gF ?_
   refine gF ?_
   refine oN 1 ?_
   refine oK [2, 3, 23] ?_
   refine cT ?_
   refine rK [4] ?_
   refine W.ret ?_
   refine tr ?_
   clear hK2 K2
   refine er false [] [] ?_
   (try simp only [inB_t, inB_f] at *)
   exact ⟨congrArg I (by rw [checkLotC, if_neg (fun h => h hc1), lotErr, if_pos (by omega)]), by trivial⟩
end Go.Sim
