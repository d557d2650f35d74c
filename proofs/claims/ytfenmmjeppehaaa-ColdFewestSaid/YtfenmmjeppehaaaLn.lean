/- Lots made of numbers, hours, copies. -/
import Derived.Test.YtfenmmjeppehaaaLk
namespace Go.Sim
open Go.Proofs
set_option maxRecDepth 100000
set_option linter.unusedSimpArgs false
set_option linter.unusedVariables false
attribute [-simp] List.map_set List.map_take List.map_drop
/-- a lot of the numbers: what it asks of -/
structure MadeT (c : Cel) (l : CLot) : Prop where
  ok : LotOk c.boxes.length l
  born : l.born ≤ 9
def lastT (born : Int) : List Sty → Int
  | [] => born
  | [s] => s.til
  | _ :: s :: r => lastT born (s :: r)
theorem lastT_base (a b : Int) (s : Sty) : ∀ r : List Sty, lastT a (s :: r) = lastT b (s :: r) := by
  intro r
  induction r generalizing s with
  | nil => rfl
  | cons t r ih => simpa [lastT] using ih t
theorem lastT_snoc (b : Int) (x : Sty) : ∀ l : List Sty, lastT b (l ++ [x]) = x.til
  | [] => rfl
  | [s] => rfl
  | _ :: s :: r => by
    have := lastT_snoc b x (s :: r)
    simpa [lastT] using this
theorem StaysOk_snoc {n : Nat} {x : Sty} : ∀ {l : List Sty} {fr : Int}, StaysOk n fr l → (0 ≤ x.box ∧ x.box < n) → 0 ≤ x.frm → x.til ≤ 240 → x.frm < x.til → lastT fr l ≤ x.frm → StaysOk n fr (l ++ [x])
  | [], fr, _, h1, h2, h3, h4, h5 => ⟨h1, ⟨h2, h3⟩, h4, h5, trivial⟩
  | [s], fr, ⟨k1, k2, k3, k4, _⟩, h1, h2, h3, h4, h5 => ⟨k1, k2, k3, k4, h1, ⟨h2, h3⟩, h4, h5, trivial⟩
  | s :: t :: r, fr, ⟨k1, k2, k3, k4, k5⟩, h1, h2, h3, h4, h5 => ⟨k1, k2, k3, k4, StaysOk_snoc (l := t :: r) k5 h1 h2 h3 h4 (by
      have : lastT s.til (t :: r) = lastT fr (s :: t :: r) := by
        cases r with
        | nil => rfl
        | cons u r => exact lastT_base _ _ _ _
      rw [this]; exact h5)⟩
set_option maxHeartbeats 4000000 in
theorem LotOf_ok (f : Int) (c : Cel) (hbl : c.boxes.length ≤ 1000) (p : Nat) (hp : p ≤ 8) : ACalls Try.prog 28 [.ptr 10000 0 0, celV c, I p] [(10000, die f)] (fun r o => ∃ z : CLot × Int, r = lotV z.1 ∧ o = [(10000, die z.2)] ∧ MadeT c z.1) := by
 have F := Fx.nil
 replace F := F.add hp |>.add hbl
 refine ent Try.func28 Try.ntmps28 Try.results28 ?_
 refine rK [0, 2, 4, 6] ?_
 refine W.seqR ?_
 refine oN 1 ?_
 refine oC [(10000, 10000)] ?_
 refine CallT.mkE (Cast_E f 10 (by omega) (by omega)) (fun z12 hz12 => ⟨(by simp [hp, hbl]), ?_⟩)
 refine WOps.norm (by simp [hp, hbl]; rfl) ?_
 refine oN 2 ?_
 refine oC [(10000, 10000)] ?_
 refine CallT.mkE (Cast_E z12.2 40 (by omega) (by omega)) (fun z15 hz15 => ⟨(by simp [hp, hbl]), ?_⟩)
 refine WOps.norm (by simp [hp, hbl]; rfl) ?_
 refine oN 1 ?_
 refine oC [(10000, 10000)] ?_
 refine CallT.mkE (Cast_E z15.2 200 (by omega) (by omega)) (fun z17 hz17 => ⟨(by simp [hp, hbl]), ?_⟩)
 refine WOps.norm (by simp [hp, hbl]; rfl) ?_
 refine oN 1 ?_
 refine oC [(10000, 10000)] ?_
 refine CallT.mkE (One_E z17.2 [0, z15.1, z17.1] (by simp) (by simp)) (fun z19 hz19 => ⟨(by simp [hp, hbl]), ?_⟩)
 have qk19 : z19.1 = 0 ∨ z19.1 = z15.1 ∨ z19.1 = z17.1 := by simpa using hz19
 have hk19 : 0 ≤ z19.1 ∧ z19.1 ≤ 200 := by omega
 replace F := F.add hk19
 refine WOps.norm (by simp [hp, hbl, hk19]; rfl) ?_
 refine oN 3 ?_
 refine oK [0, 2, 4, 6, 7] ?_
 refine rK [0, 2, 4, 6, 7, 8] ?_
 refine W.seqk fun K1 hK1 => ?_
 refine W.seqR ?_
 refine oNw 3 ?_
 refine oC [(10000, 10000)] ?_
 refine CallT.mkE (Cast_E z19.2 ((p : Int) + 1) (by omega) (by omega)) (fun z26 hz26 => ⟨(by simp [hp, hbl, hk19]), ?_⟩)
 obtain ⟨m, qm⟩ : ∃ m : Nat, z26.1 = (m : Int) := ⟨z26.1.toNat, by omega⟩
 have hmq := qm
 have hmp : m ≤ p := by omega
 replace F := F.add hmq |>.add hmp
 refine WOps.norm (by simp [hp, hbl, hk19, hmq, hmp]; rfl) ?_
 refine oN 1 ?_
 refine oK [0, 4, 6, 7, 8, 9] ?_
 refine W.block ?_
 refine sno 56 0 2 9000 114 3 ?_
 refine lpa (α := List Sty × Int × Int × Nat) [0, 4, 6, 7] [10, 32, 40, 41, 45, 46, 47, 53, 59, 60] [56, 9000, 10000] (fun x => [(8, I x.2.1), (9, I x.2.2.2)]) (fun x => [(56, .row false 51 3 [.agg [I z12.1, I z19.1, .own 9000 0 x.1.length]]), (9000, .row true 114 3 (x.1.map T3)), (10000, die x.2.2.1)]) (fun x => (StaysOk c.boxes.length z12.1 x.1 ∧ x.2.1 = lastT z12.1 x.1) ∧ (0 ≤ x.2.1 ∧ x.2.1 + 10 * (x.2.2.2 : Int) ≤ 9 + 10 * (m : Int)) ∧ x.1.length + x.2.2.2 = m) (fun x => x.2.2.2) ([], z12.1, z26.2, m) ?_ ?_
 ·
  exact ⟨⟨trivial, rfl⟩, ⟨by show 0 ≤ z12.1; omega, by show z12.1 + 10 * (m : Int) ≤ 9 + 10 * m; omega⟩, by show 0 + m = m; omega⟩
 ·
  intro ⟨ss, fr, g, i⟩ hI0
  simp only [List.cons_append, List.nil_append]
  try dsimp only at hI0
  obtain ⟨kss, hfr, hsl⟩ := hI0
  replace F := F.add hfr |>.add hsl
  refine W.seqk fun K2 hK2 => ?_
  refine W.seqR ?_
  refine oN 3 ?_
  refine gX ?_
  refine gX ?_
  refine gX ?_
  refine gX ?_
  refine oN 1 ?_
  refine oK [0, 4, 6, 7, 8, 9, 34] ?_
  refine it (fun hc1 => ?_) (fun hc1 => ?_)
  ·
   try simp at hc1
   replace F := F.add hc1
   refine W.skip ?_
   refine hK2 _ ?_
   clear hK2 K2
   refine W.seqk fun K3 hK3 => ?_
   refine W.block ?_
   have him : ((i : Nat) : Int) - 1 = ((i - 1 : Nat) : Int) := by omega
   have hi0 : 0 < i := by omega
   have hb0 : 0 < c.boxes.length := by omega
   replace F := F.add him |>.add hi0 |>.add hb0
   refine W.seqR ?_
   refine oN 4 ?_
   refine oC [(10000, 10000)] ?_
   refine CallT.mkE (Cast_E g (c.boxes.length : Int) (by omega) (by omega)) (fun z41 hz41 => ⟨(by simp [hp, hbl, hk19, hmq, hmp, hfr, hsl, hc1, him, hi0, hb0]), ?_⟩)
   refine WOps.norm (by simp [hp, hbl, hk19, hmq, hmp, hfr, hsl, hc1, him, hi0, hb0]; rfl) ?_
   refine oN 3 ?_
   refine oC [(10000, 10000)] ?_
   refine CallT.mkE (Cast_E z41.2 3 (by omega) (by omega)) (fun z45 hz45 => ⟨(by simp [hp, hbl, hk19, hmq, hmp, hfr, hsl, hc1, him, hi0, hb0]), ?_⟩)
   refine WOps.norm (by simp [hp, hbl, hk19, hmq, hmp, hfr, hsl, hc1, him, hi0, hb0]; rfl) ?_
   refine oN 1 ?_
   refine oC [(10000, 10000)] ?_
   refine CallT.mkE (One_E z45.2 [0, z45.1] (by simp) (by simp)) (fun z47 hz47 => ⟨(by simp [hp, hbl, hk19, hmq, hmp, hfr, hsl, hc1, him, hi0, hb0]), ?_⟩)
   have qk47 : z47.1 = 0 ∨ z47.1 = z45.1 := by simpa using hz47
   have hk47 : 0 ≤ z47.1 ∧ z47.1 ≤ 2 := by omega
   replace F := F.add hk47
   refine WOps.norm (by simp [hp, hbl, hk19, hmq, hmp, hfr, hsl, hc1, him, hi0, hb0, hk47]; rfl) ?_
   refine oNw 4 ?_
   refine oK [0, 4, 6, 7, 9, 10] ?_
   obtain ⟨v, qv⟩ : ∃ v, fromV z47.2 1 8 = v := ⟨_, rfl⟩
   obtain ⟨g2, qg2⟩ : ∃ g2, fromF z47.2 1 8 = g2 := ⟨_, rfl⟩
   have hvv := qv
   have hg2 := qg2
   have qvr : 1 ≤ v ∧ v ≤ 8 := by rw [← qv]; exact fromV_range _ (by omega)
   replace F := F.add hvv |>.add hg2
   refine wD 4 [(3, [10000])] [[], [0], [], [2], [2, 3, 0, 1], [4, 3, 2, 1, 0], [0, 1, 2, 3, 4, 5]] ?_
   refine dB [([52, 53], [], [10000]), ([52, 53], [true], [10000]), ([50, 51], [false, false], [])] 1 3 ?_
   refine dC [50, 51] [false, false, true] [] [(10000, 10000)] ?_
   refine cd (From_ok z47.2 1 8 (by omega) (by omega) (by omega) (by omega)) ?_
   refine dD ?_
   refine oNw 3 ?_
   refine oK [0, 4, 6, 7, 9, 10] ?_
   refine rKw [0, 4, 6, 7, 9, 10] ?_
   refine rE ?_
   refine hK3 _ ?_
   clear hK3 K3
   refine rEw ?_
   refine ⟨(ss ++ [⟨z41.1, fr + z47.1, fr + z47.1 + v⟩], fr + z47.1 + v, g2, i - 1), lf0, ?_, ?_⟩
   ·
    obtain ⟨k1, k2⟩ := kss
    refine ⟨⟨StaysOk_snoc k1 (by show 0 ≤ z41.1 ∧ z41.1 < c.boxes.length; omega) (by show 0 ≤ fr + z47.1; omega) (by show fr + z47.1 + v ≤ 240; omega) (by show fr + z47.1 < fr + z47.1 + v; omega) (by show lastT z12.1 ss ≤ fr + z47.1; rw [← k2]; show fr ≤ fr + z47.1; omega), by show _ = lastT z12.1 (ss ++ [_]); rw [lastT_snoc]⟩, ?_, ?_⟩
    · show 0 ≤ fr + z47.1 + v ∧ fr + z47.1 + v + 10 * ((i - 1 : Nat) : Int) ≤ 9 + 10 * (m : Int)
      omega
    · show (ss ++ [_]).length + (i - 1) = m
      rw [len_snoc]; omega
   ·
    show i - 1 < i
    omega
  ·
   try simp at hc1
   replace F := F.add hc1
   refine W.exit ?_
   refine hK1 _ ?_
   clear hK2 K2 hK1 K1
   refine rK [6] ?_
   refine W.ret ?_
   refine er false [9000] [(10000, 10000)] ?_
   exact ⟨(⟨z12.1, z19.1, ss⟩, g), rfl, rfl, ⟨⟨by show 0 ≤ z12.1 ∧ z12.1 ≤ 239; omega, by show 0 ≤ z19.1 ∧ z19.1 ≤ 100000; omega, by show ss.length ≤ 8; omega, kss.1⟩, by show z12.1 ≤ 9; omega⟩⟩
set_option maxHeartbeats 4000000 in
theorem HourOf_ok (f : Int) (l : CLot) (hb : 0 ≤ l.born ∧ l.born ≤ 239) : ACalls Try.prog 29 [.ptr 10000 0 0, lotV l] [(10000, die f)] (fun r o => ∃ z : Int × Int, r = I z.1 ∧ o = [(10000, die z.2)] ∧ (l.born ≤ z.1 ∧ z.1 ≤ 240)) := by
 have F := Fx.nil
 replace F := F.add hb
 refine ent Try.func29 Try.ntmps29 Try.results29 ?_
 obtain ⟨x, qx⟩ : ∃ x, oneV f [6, 30, 60] = x := ⟨_, rfl⟩
 obtain ⟨g, qg⟩ : ∃ g, oneF f [6, 30, 60] = g := ⟨_, rfl⟩
 have hx := qx
 have hg1 := qg
 have qxo := oneV_mem f [6, 30, 60] (by simp)
 rw [qx] at qxo
 simp only [List.mem_cons, List.not_mem_nil, or_false] at qxo
 obtain ⟨v, qv⟩ : ∃ v, castV g x = v := ⟨_, rfl⟩
 obtain ⟨g2, qg2⟩ : ∃ g2, castF g x = g2 := ⟨_, rfl⟩
 have hv := qv
 have hg2 := qg2
 have qvr : 0 ≤ v ∧ v ≤ 59 := by
   have h1 := castV_lo g x
   have h2 := castV_le g x (by omega)
   omega
 replace F := F.add hx |>.add hg1 |>.add hv |>.add hg2
 refine rK [0, 3] ?_
 refine wD 7 [(5, [10000]), (6, [10000])] [[], [0], [], [], [], [4, 3], [3, 4, 5, 2], [2, 5, 4, 3, 6, 0, 1], [1, 0, 6, 3, 4, 5, 2, 7], [7, 2, 5, 4, 3, 6, 0, 1, 8]] ?_
 refine dB [([7, 8, 9, 10, 11], [], [10000, 10000]), ([7, 8, 9, 10, 11], [true], [10000, 10000]), ([5, 6, 8, 9, 10], [false, false], [10000]), ([5, 6, 7, 9], [false, false, false], []), ([5, 6, 7, 8], [false, false, false, false], [])] 2 5 ?_
 refine dC [5, 6, 7] [false, false, false, true, true] [] [(10000, 10000)] ?_
 refine cd (One_ok f [6, 30, 60] (by simp)) ?_
 refine dC [5, 6] [false, false, true, true, true, true] [] [(10000, 10000)] ?_
 refine cd (Cast_ok g x (by omega)) ?_
 refine dD ?_
 refine oNw 3 ?_
 refine oK [4] ?_
 refine W.ret ?_
 refine er false [] [(10000, 10000)] ?_
 exact ⟨(min 240 (l.born + v), g2), by first | rfl | (congr 2; omega), rfl, by show l.born ≤ min 240 (l.born + v); omega, by show min 240 (l.born + v) ≤ 240; omega⟩
set_option maxHeartbeats 4000000 in
theorem CopyCellar_own (c : Cel) (h1 : c.boxes.length ≤ 1000) (h2 : c.fils.length ≤ 1000) (h3 : c.rats.length ≤ 1000) : ACalls Try.prog 22 [celV c] [] (fun r o => r = .agg [I c.hall.lo, I c.hall.hi, .own 20000 0 c.boxes.length, .own 20001 0 c.fils.length, .own 20002 0 c.rats.length] ∧ o = [(20000, .row true 56 9 (c.boxes.map B9)), (20001, .row true 105 3 (c.fils.map F3)), (20002, .row true 107 2 (c.rats.map R2))]) := by
 have F := Fx.nil
 replace F := F.add h1 |>.add h2 |>.add h3
 refine ent Try.func22 Try.ntmps22 Try.results22 ?_
 refine rK [1, 2] ?_
 refine wD 13 [(3, [24]), (7, [56]), (11, [88])] [[], [], [1], [1, 2, 0], [], [], [5], [0, 2, 1, 3, 5, 6, 4], [], [], [9], [4, 6, 5, 3, 1, 2, 0, 7, 9, 10, 8], [10, 9, 6, 5, 3, 2, 1, 0], [8, 7, 4, 11, 0, 1, 2, 3, 5, 6, 9, 10, 12], [11, 8, 13, 12, 10, 9, 7, 6, 5, 4, 3, 2, 1, 0], [0, 1, 2, 3, 4, 5, 6, 7, 9, 10, 12, 13, 8, 11, 14], [15, 14, 13, 12, 11, 10, 9, 8, 7, 6, 5, 4, 3, 2, 1, 0], [0, 1, 2, 3, 4, 5, 6, 7, 8, 9, 10, 11, 12, 13, 14, 15, 16]] ?_
 refine dB [([4, 5, 7, 8, 9, 11, 12, 13], [], []), ([3, 7, 8, 9, 11, 12, 13], [false], []), ([3, 7, 8, 9, 11, 12, 13], [false, true], [])] 10 3 ?_
 refine dAw [7, 8, 9, 11, 12, 13] [true, true, true] [] [24] ?_
 refine dB [([3, 4, 5, 6, 8, 9, 11, 12, 13, 15], [false, false, false, false], [24]), ([3, 4, 5, 6, 7, 11, 12, 13], [false, false, false, false, false], [24]), ([3, 4, 5, 6, 7, 11, 12, 13], [false, false, false, false, false, true], [24])] 6 7 ?_
 refine dAw [11, 12, 13, 15] [true, true, true, true, true, true, true] [] [56] ?_
 refine dB [([3, 4, 5, 6, 7, 8, 9, 10, 12, 13, 15], [false, false, false, false, false, false, false, false], [24, 56]), ([3, 4, 5, 6, 7, 8, 9, 10, 11], [false, false, false, false, false, false, false, false, false], [24, 56]), ([3, 4, 5, 6, 7, 8, 9, 10, 11], [false, false, false, false, false, false, false, false, false, true], [24, 56])] 2 11 ?_
 refine dAw [15] [true, true, true, true, true, true, true, true, true, true, true] [] [88] ?_
 refine dB [([7, 10, 11, 14], [true, true, true, true, false, true, true, false, false, true, true, false], [56, 88])] 0 13 ?_
 refine dD ?_
 refine oN 5 ?_
 refine oK [1, 2] ?_
 refine rK [2] ?_
 refine W.ret ?_
 exact er0 false [] [(20000, 48), (20001, 80), (20002, 112)]
end Go.Sim
