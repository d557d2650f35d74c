/- The lot that the numbers make. -/
import Derived.Test.YtfenmmjeppehaaaLn
namespace Go.Sim
open Go.Proofs
set_option maxRecDepth 100000
set_option linter.unusedSimpArgs false
set_option linter.unusedVariables false
attribute [-simp] List.map_set List.map_take List.map_drop
theorem Cast_D (f n : Int) (h1 : 1 ≤ n) (hn : n < 9223372036854775808) : ACalls Try.prog 19 [.ptr 10000 0 0, I n] [(10000, die f)] (fun r o => ∃ z : Int × Int, r = I z.1 ∧ o = [(10000, die z.2)] ∧ ((0 ≤ z.1 ∧ z.1 ≤ n - 1) ∧ z = (castV f n, castF f n))) :=
  (Cast_ok f n hn).mono fun _ _ h => ⟨(castV f n, castF f n), h.1, h.2, ⟨castV_lo f n, castV_le f n h1⟩, rfl⟩
theorem One_D (f : Int) (l : List Int) (h0 : l ≠ []) (hl : l.length < 9223372036854775808) : ACalls Try.prog 21 [.ptr 10000 0 0, ints l] [(10000, die f)] (fun r o => ∃ z : Int × Int, r = I z.1 ∧ o = [(10000, die z.2)] ∧ (z.1 ∈ l ∧ z = (oneV f l, oneF f l))) :=
  (One_ok f l hl).mono fun _ _ h => ⟨(oneV f l, oneF f l), h.1, h.2, oneV_mem f l h0, rfl⟩
/-- a stay more -/
noncomputable def lotStep (n : Int) (s : List Sty × Int × Int) : List Sty × Int × Int :=
  (s.1 ++ [⟨castV s.2.2 n, s.2.1 + oneV (castF (castF s.2.2 n) 3) [0, castV (castF s.2.2 n) 3],
      s.2.1 + oneV (castF (castF s.2.2 n) 3) [0, castV (castF s.2.2 n) 3] + fromV (oneF (castF (castF s.2.2 n) 3) [0, castV (castF s.2.2 n) 3]) 1 8⟩],
    s.2.1 + oneV (castF (castF s.2.2 n) 3) [0, castV (castF s.2.2 n) 3] + fromV (oneF (castF (castF s.2.2 n) 3) [0, castV (castF s.2.2 n) 3]) 1 8,
    fromF (oneF (castF (castF s.2.2 n) 3) [0, castV (castF s.2.2 n) 3]) 1 8)
noncomputable def lotIter (n : Nat) : Nat → List Sty × Int × Int → List Sty × Int × Int
  | 0, s => s
  | k + 1, s => lotStep n (lotIter n k s)
noncomputable def lotM (f : Int) (p : Nat) : Int × Int × Int × Int :=
  (castV f 10, oneV (castF (castF (castF f 10) 40) 200) [0, castV (castF f 10) 40, castV (castF (castF f 10) 40) 200],
    castV (oneF (castF (castF (castF f 10) 40) 200) [0, castV (castF f 10) 40, castV (castF (castF f 10) 40) 200]) ((p : Int) + 1),
    castF (oneF (castF (castF (castF f 10) 40) 200) [0, castV (castF f 10) 40, castV (castF (castF f 10) 40) 200]) ((p : Int) + 1))
noncomputable def lotD (f : Int) (c : Cel) (p : Nat) : CLot × Int :=
  if c.boxes.length = 0 then (⟨(lotM f p).1, (lotM f p).2.1, []⟩, (lotM f p).2.2.2)
  else (⟨(lotM f p).1, (lotM f p).2.1, (lotIter c.boxes.length (lotM f p).2.2.1.toNat ([], (lotM f p).1, (lotM f p).2.2.2)).1⟩, (lotIter c.boxes.length (lotM f p).2.2.1.toNat ([], (lotM f p).1, (lotM f p).2.2.2)).2.2)
theorem lotD_eq {f : Int} {c : Cel} {p : Nat} {z12 z15 z17 z19 z26 : Int × Int} {m i : Nat} {ss : List Sty} {fr g : Int} (e12 : z12 = (castV f 10, castF f 10)) (e15 : z15 = (castV z12.2 40, castF z12.2 40)) (e17 : z17 = (castV z15.2 200, castF z15.2 200)) (e19 : z19 = (oneV z17.2 [0, z15.1, z17.1], oneF z17.2 [0, z15.1, z17.1]))
    (e26 : z26 = (castV z19.2 ((p : Int) + 1), castF z19.2 ((p : Int) + 1))) (qm : z26.1 = (m : Int)) (kit : (ss, fr, g) = lotIter c.boxes.length (m - i) ([], z12.1, z26.2)) (hsl : ss.length + i = m) (hs : StaysOk c.boxes.length z12.1 ss) (hi : 0 < i → c.boxes.length = 0) : lotD f c p = (⟨z12.1, z19.1, ss⟩, g) := by
  have h1 : (lotM f p).1 = z12.1 := by rw [e12]; rfl
  have h2 : (lotM f p).2.1 = z19.1 := by rw [e19, e17, e15, e12]; rfl
  have h3 : (lotM f p).2.2.1 = z26.1 := by rw [e26, e19, e17, e15, e12]; rfl
  have h4 : (lotM f p).2.2.2 = z26.2 := by rw [e26, e19, e17, e15, e12]; rfl
  rw [lotD, h1, h2, h3, h4, qm, Int.toNat_natCast]
  by_cases hb : c.boxes.length = 0
  · rw [if_pos hb]
    cases ss with
    | nil =>
      have : m - i = 0 := by simp at hsl; omega
      rw [this] at kit
      have : g = z26.2 := congrArg (fun x => x.2.2) kit
      rw [this]
    | cons s r =>
      have := hs.1
      rw [hb] at this
      omega
  · rw [if_neg hb]
    have hi0 : i = 0 := by omega
    rw [hi0, Nat.sub_zero] at kit
    rw [← kit]
set_option maxHeartbeats 4000000 in
theorem LotOf_det (f : Int) (c : Cel) (hbl : c.boxes.length ≤ 1000) (p : Nat) (hp : p ≤ 8) : ACalls Try.prog 28 [.ptr 10000 0 0, celV c, I p] [(10000, die f)] (fun r o => r = lotV (lotD f c p).1 ∧ o = [(10000, die (lotD f c p).2)]) := by
 have F := Fx.nil
 replace F := F.add hp |>.add hbl
 refine ent Try.func28 Try.ntmps28 Try.results28 ?_
 refine rK [0, 2, 4, 6] ?_
 refine W.seqR ?_
 refine oN 1 ?_
 refine oC [(10000, 10000)] ?_
 refine CallT.mkE (Cast_D f 10 (by omega) (by omega)) (fun z12 hz12 => ⟨(by simp [hp, hbl]), ?_⟩)
 refine WOps.norm (by simp [hp, hbl]; rfl) ?_
 refine oN 2 ?_
 refine oC [(10000, 10000)] ?_
 refine CallT.mkE (Cast_D z12.2 40 (by omega) (by omega)) (fun z15 hz15 => ⟨(by simp [hp, hbl]), ?_⟩)
 refine WOps.norm (by simp [hp, hbl]; rfl) ?_
 refine oN 1 ?_
 refine oC [(10000, 10000)] ?_
 refine CallT.mkE (Cast_D z15.2 200 (by omega) (by omega)) (fun z17 hz17 => ⟨(by simp [hp, hbl]), ?_⟩)
 refine WOps.norm (by simp [hp, hbl]; rfl) ?_
 refine oN 1 ?_
 refine oC [(10000, 10000)] ?_
 refine CallT.mkE (One_D z17.2 [0, z15.1, z17.1] (by simp) (by simp)) (fun z19 hz19 => ⟨(by simp [hp, hbl]), ?_⟩)
 have qk19 : z19.1 = 0 ∨ z19.1 = z15.1 ∨ z19.1 = z17.1 := by simpa using hz19.1
 have hk19 : 0 ≤ z19.1 ∧ z19.1 ≤ 200 := by omega
 replace F := F.add hk19
 refine WOps.norm (by simp [hp, hbl, hk19]; rfl) ?_
 refine oN 3 ?_
 refine oK [0, 2, 4, 6, 7] ?_
 refine rK [0, 2, 4, 6, 7, 8] ?_
 refine W.seqk fun K1 hK1 => ?_
 refine W.seqR ?_
 refine oNw 3 ?_
 refine oC [(10000, 10000)] ?_
 refine CallT.mkE (Cast_D z19.2 ((p : Int) + 1) (by omega) (by omega)) (fun z26 hz26 => ⟨(by simp [hp, hbl, hk19]), ?_⟩)
 obtain ⟨m, qm⟩ : ∃ m : Nat, z26.1 = (m : Int) := ⟨z26.1.toNat, by omega⟩
 have hmq := qm
 have hmp : m ≤ p := by omega
 replace F := F.add hmq |>.add hmp
 refine WOps.norm (by simp [hp, hbl, hk19, hmq, hmp]; rfl) ?_
 refine oN 1 ?_
 refine oK [0, 4, 6, 7, 8, 9] ?_
 refine W.block ?_
 refine sno 56 0 2 9000 114 3 ?_
 refine lpa (α := List Sty × Int × Int × Nat) [0, 4, 6, 7] [10, 32, 40, 41, 45, 46, 47, 53, 59, 60] [56, 9000, 10000] (fun x => [(8, I x.2.1), (9, I x.2.2.2)]) (fun x => [(56, .row false 51 3 [.agg [I z12.1, I z19.1, .own 9000 0 x.1.length]]), (9000, .row true 114 3 (x.1.map T3)), (10000, die x.2.2.1)]) (fun x => (StaysOk c.boxes.length z12.1 x.1 ∧ x.2.1 = lastT z12.1 x.1) ∧ (0 ≤ x.2.1 ∧ x.2.1 + 10 * (x.2.2.2 : Int) ≤ 9 + 10 * (m : Int)) ∧ x.1.length + x.2.2.2 = m ∧ (x.1, x.2.1, x.2.2.1) = lotIter c.boxes.length (m - x.2.2.2) ([], z12.1, z26.2)) (fun x => x.2.2.2) ([], z12.1, z26.2, m) ?_ ?_
 ·
  exact ⟨⟨trivial, rfl⟩, ⟨by show 0 ≤ z12.1; omega, by show z12.1 + 10 * (m : Int) ≤ 9 + 10 * m; omega⟩, by show 0 + m = m; omega, by show _ = lotIter _ (m - m) _; rw [Nat.sub_self]; rfl⟩
 ·
  intro ⟨ss, fr, g, i⟩ hI0
  simp only [List.cons_append, List.nil_append]
  try dsimp only at hI0
  obtain ⟨kss, hfr, hsl, kit⟩ := hI0
  replace F := F.add hfr |>.add hsl
  refine W.seqk fun K2 hK2 => ?_
  refine W.seqR ?_
  refine oN 3 ?_
  refine gX ?_
  refine gX ?_
  refine gX ?_
  refine gX ?_
  refine oN 1 ?_
  refine oK [0, 4, 6, 7, 8, 9, 34] ?_
  refine it (fun hc1 => ?_) (fun hc1 => ?_)
  ·
   try simp at hc1
   replace F := F.add hc1
   refine W.skip ?_
   refine hK2 _ ?_
   clear hK2 K2
   refine W.seqk fun K3 hK3 => ?_
   refine W.block ?_
   have him : ((i : Nat) : Int) - 1 = ((i - 1 : Nat) : Int) := by omega
   have hi0 : 0 < i := by omega
   have hb0 : 0 < c.boxes.length := by omega
   replace F := F.add him |>.add hi0 |>.add hb0
   refine W.seqR ?_
   refine oN 4 ?_
   refine oC [(10000, 10000)] ?_
   refine CallT.mkE (Cast_D g (c.boxes.length : Int) (by omega) (by omega)) (fun z41 hz41 => ⟨(by simp [hp, hbl, hk19, hmq, hmp, hfr, hsl, hc1, him, hi0, hb0]), ?_⟩)
   refine WOps.norm (by simp [hp, hbl, hk19, hmq, hmp, hfr, hsl, hc1, him, hi0, hb0]; rfl) ?_
   refine oN 3 ?_
   refine oC [(10000, 10000)] ?_
   refine CallT.mkE (Cast_D z41.2 3 (by omega) (by omega)) (fun z45 hz45 => ⟨(by simp [hp, hbl, hk19, hmq, hmp, hfr, hsl, hc1, him, hi0, hb0]), ?_⟩)
   refine WOps.norm (by simp [hp, hbl, hk19, hmq, hmp, hfr, hsl, hc1, him, hi0, hb0]; rfl) ?_
   refine oN 1 ?_
   refine oC [(10000, 10000)] ?_
   refine CallT.mkE (One_D z45.2 [0, z45.1] (by simp) (by simp)) (fun z47 hz47 => ⟨(by simp [hp, hbl, hk19, hmq, hmp, hfr, hsl, hc1, him, hi0, hb0]), ?_⟩)
   have qk47 : z47.1 = 0 ∨ z47.1 = z45.1 := by simpa using hz47.1
   have hk47 : 0 ≤ z47.1 ∧ z47.1 ≤ 2 := by omega
   replace F := F.add hk47
   refine WOps.norm (by simp [hp, hbl, hk19, hmq, hmp, hfr, hsl, hc1, him, hi0, hb0, hk47]; rfl) ?_
   refine oNw 4 ?_
   refine oK [0, 4, 6, 7, 9, 10] ?_
   obtain ⟨v, qv⟩ : ∃ v, fromV z47.2 1 8 = v := ⟨_, rfl⟩
   obtain ⟨g2, qg2⟩ : ∃ g2, fromF z47.2 1 8 = g2 := ⟨_, rfl⟩
   have hvv := qv
   have hg2 := qg2
   have qvr : 1 ≤ v ∧ v ≤ 8 := by rw [← qv]; exact fromV_range _ (by omega)
   replace F := F.add hvv |>.add hg2
   refine wD 4 [(3, [10000])] [[], [0], [], [2], [2, 3, 0, 1], [4, 3, 2, 1, 0], [0, 1, 2, 3, 4, 5]] ?_
   refine dB [([52, 53], [], [10000]), ([52, 53], [true], [10000]), ([50, 51], [false, false], [])] 1 3 ?_
   refine dC [50, 51] [false, false, true] [] [(10000, 10000)] ?_
   refine cd (From_ok z47.2 1 8 (by omega) (by omega) (by omega) (by omega)) ?_
   refine dD ?_
   refine oNw 3 ?_
   refine oK [0, 4, 6, 7, 9, 10] ?_
   refine rKw [0, 4, 6, 7, 9, 10] ?_
   refine rE ?_
   refine hK3 _ ?_
   clear hK3 K3
   refine rEw ?_
   refine ⟨(ss ++ [⟨z41.1, fr + z47.1, fr + z47.1 + v⟩], fr + z47.1 + v, g2, i - 1), lf0, ?_, ?_⟩
   ·
    obtain ⟨k1, k2⟩ := kss
    refine ⟨⟨StaysOk_snoc k1 (by show 0 ≤ z41.1 ∧ z41.1 < c.boxes.length; omega) (by show 0 ≤ fr + z47.1; omega) (by show fr + z47.1 + v ≤ 240; omega) (by show fr + z47.1 < fr + z47.1 + v; omega) (by show lastT z12.1 ss ≤ fr + z47.1; rw [← k2]; show fr ≤ fr + z47.1; omega), by show _ = lastT z12.1 (ss ++ [_]); rw [lastT_snoc]⟩, ?_, ?_, ?_⟩
    · show 0 ≤ fr + z47.1 + v ∧ fr + z47.1 + v + 10 * ((i - 1 : Nat) : Int) ≤ 9 + 10 * (m : Int)
      omega
    · show (ss ++ [_]).length + (i - 1) = m
      rw [len_snoc]; omega
    · show _ = lotIter c.boxes.length (m - (i - 1)) ([], z12.1, z26.2)
      rw [show m - (i - 1) = (m - i) + 1 by omega, lotIter, ← kit]
      have e41 := hz41.2
      have e45 := hz45.2
      have e47 := hz47.2
      subst e41
      subst e45
      subst e47
      rw [← qv, ← qg2]
      rfl
   ·
    show i - 1 < i
    omega
  ·
   try simp at hc1
   replace F := F.add hc1
   refine W.exit ?_
   refine hK1 _ ?_
   clear hK2 K2 hK1 K1
   refine rK [6] ?_
   refine W.ret ?_
   refine er false [9000] [(10000, 10000)] ?_
   have e0 := lotD_eq (ss := ss) (g := g) (fr := fr) hz12.2 hz15.2 hz17.2 hz19.2 hz26.2 qm kit hsl kss.1 (fun h9 => by first | simp [hc1 h9] | omega)
   rw [e0]
   exact ⟨rfl, rfl⟩
theorem lotIter_ok {n : Nat} (hn : 0 < n) (hn2 : n ≤ 1000) {b f : Int} (hb : 0 ≤ b ∧ b ≤ 9) : ∀ k : Nat, k ≤ 8 → StaysOk n b (lotIter n k ([], b, f)).1 ∧ (lotIter n k ([], b, f)).2.1 = lastT b (lotIter n k ([], b, f)).1 ∧ (b ≤ (lotIter n k ([], b, f)).2.1 ∧ (lotIter n k ([], b, f)).2.1 ≤ b + 10 * k) ∧ (lotIter n k ([], b, f)).1.length = k
  | 0, _ => ⟨trivial, rfl, ⟨by show b ≤ b; omega, by show b ≤ b + 10 * 0; omega⟩, rfl⟩
  | k + 1, hk => by
    obtain ⟨h1, h2, h3, h4⟩ := lotIter_ok hn hn2 (f := f) hb k (by omega)
    rw [lotIter]
    generalize lotIter n k ([], b, f) = s at *
    obtain ⟨ss, fr, g⟩ := s
    dsimp only at h1 h2 h3 h4
    have q1 := castV_lo g n
    have q2 := castV_le g n (by omega)
    have q3 := castV_lo (castF g n) 3
    have q4 := castV_le (castF g n) 3 (by omega)
    have q5 := oneV_mem (castF (castF g n) 3) [0, castV (castF g n) 3] (by simp)
    simp only [List.mem_cons, List.not_mem_nil, or_false] at q5
    have q6 := fromV_range (oneF (castF (castF g n) 3) [0, castV (castF g n) 3]) (lo := 1) (hi := 8) (by omega)
    unfold lotStep
    dsimp only
    refine ⟨StaysOk_snoc h1 (by dsimp only; omega) (by dsimp only; omega) (by dsimp only; omega) (by dsimp only; omega) (by dsimp only; omega), by rw [lastT_snoc], by omega, ?_⟩
    rw [len_snoc, h4]
theorem lotD_ok (f : Int) (c : Cel) (hbl : c.boxes.length ≤ 1000) (p : Nat) (hp : p ≤ 8) : MadeT c (lotD f c p).1 := by
  have q1 := castV_lo f 10
  have q2 := castV_le f 10 (by omega)
  have q3 := castV_lo (castF f 10) 40
  have q4 := castV_le (castF f 10) 40 (by omega)
  have q5 := castV_lo (castF (castF f 10) 40) 200
  have q6 := castV_le (castF (castF f 10) 40) 200 (by omega)
  have q7 := oneV_mem (castF (castF (castF f 10) 40) 200) [0, castV (castF f 10) 40, castV (castF (castF f 10) 40) 200] (by simp)
  simp only [List.mem_cons, List.not_mem_nil, or_false] at q7
  have h1 : 0 ≤ (lotM f p).1 ∧ (lotM f p).1 ≤ 9 := ⟨q1, by show castV f 10 ≤ 9; omega⟩
  have h2 : 0 ≤ (lotM f p).2.1 ∧ (lotM f p).2.1 ≤ 100000 := by unfold lotM; dsimp only; omega
  have h3 : 0 ≤ (lotM f p).2.2.1 ∧ (lotM f p).2.2.1 ≤ p := by
    have := castV_lo (oneF (castF (castF (castF f 10) 40) 200) [0, castV (castF f 10) 40, castV (castF (castF f 10) 40) 200]) ((p : Int) + 1)
    have := castV_le (oneF (castF (castF (castF f 10) 40) 200) [0, castV (castF f 10) 40, castV (castF (castF f 10) 40) 200]) ((p : Int) + 1) (by omega)
    unfold lotM; dsimp only; omega
  unfold lotD
  split
  · exact ⟨⟨by dsimp only; omega, h2, by simp, trivial⟩, h1.2⟩
  · rename_i hb
    obtain ⟨k1, k2, k3, k4⟩ := lotIter_ok (n := c.boxes.length) (by omega) hbl (f := (lotM f p).2.2.2) h1 (lotM f p).2.2.1.toNat (by omega)
    exact ⟨⟨by dsimp only; omega, h2, by dsimp only; omega, k1⟩, h1.2⟩
noncomputable def hourV (f : Int) (l : CLot) : Int := min 240 (l.born + castV (oneF f [6, 30, 60]) (oneV f [6, 30, 60]))
noncomputable def hourF (f : Int) : Int := castF (oneF f [6, 30, 60]) (oneV f [6, 30, 60])
theorem hourV_range (f : Int) {l : CLot} (hb : 0 ≤ l.born ∧ l.born ≤ 239) : l.born ≤ hourV f l ∧ hourV f l ≤ 240 := by
  have h1 := castV_lo (oneF f [6, 30, 60]) (oneV f [6, 30, 60])
  unfold hourV; omega
set_option maxHeartbeats 4000000 in
theorem HourOf_det (f : Int) (l : CLot) (hb : 0 ≤ l.born ∧ l.born ≤ 239) : ACalls Try.prog 29 [.ptr 10000 0 0, lotV l] [(10000, die f)] (fun r o => r = I (hourV f l) ∧ o = [(10000, die (hourF f))]) := by
 have F := Fx.nil
 replace F := F.add hb
 refine ent Try.func29 Try.ntmps29 Try.results29 ?_
 obtain ⟨x, qx⟩ : ∃ x, oneV f [6, 30, 60] = x := ⟨_, rfl⟩
 obtain ⟨g, qg⟩ : ∃ g, oneF f [6, 30, 60] = g := ⟨_, rfl⟩
 have hx := qx
 have hg1 := qg
 have qxo := oneV_mem f [6, 30, 60] (by simp)
 rw [qx] at qxo
 simp only [List.mem_cons, List.not_mem_nil, or_false] at qxo
 obtain ⟨v, qv⟩ : ∃ v, castV g x = v := ⟨_, rfl⟩
 obtain ⟨g2, qg2⟩ : ∃ g2, castF g x = g2 := ⟨_, rfl⟩
 have hv := qv
 have hg2 := qg2
 have qvr : 0 ≤ v ∧ v ≤ 59 := by
   have h1 := castV_lo g x
   have h2 := castV_le g x (by omega)
   omega
 replace F := F.add hx |>.add hg1 |>.add hv |>.add hg2
 refine rK [0, 3] ?_
 refine wD 7 [(5, [10000]), (6, [10000])] [[], [0], [], [], [], [4, 3], [3, 4, 5, 2], [2, 5, 4, 3, 6, 0, 1], [1, 0, 6, 3, 4, 5, 2, 7], [7, 2, 5, 4, 3, 6, 0, 1, 8]] ?_
 refine dB [([7, 8, 9, 10, 11], [], [10000, 10000]), ([7, 8, 9, 10, 11], [true], [10000, 10000]), ([5, 6, 8, 9, 10], [false, false], [10000]), ([5, 6, 7, 9], [false, false, false], []), ([5, 6, 7, 8], [false, false, false, false], [])] 2 5 ?_
 refine dC [5, 6, 7] [false, false, false, true, true] [] [(10000, 10000)] ?_
 refine cd (One_ok f [6, 30, 60] (by simp)) ?_
 refine dC [5, 6] [false, false, true, true, true, true] [] [(10000, 10000)] ?_
 refine cd (Cast_ok g x (by omega)) ?_
 refine dD ?_
 refine oNw 3 ?_
 refine oK [4] ?_
 refine W.ret ?_
 refine er false [] [(10000, 10000)] ?_
 refine ⟨?_, by rw [hourF, qx, qg, qg2]⟩
 rw [hourV, qx, qg, qv]
 first | rfl | (congr 2; omega) | (congr 1; omega)
/-- not more than the statements go through -/
structure SmallC (c : Cel) : Prop where
  bx : c.boxes.length ≤ 15
  fl : c.fils.length ≤ 40
  rt : c.rats.length ≤ 15
theorem MadeC.small {c : Cel} {p q : Nat} (h : MadeC c p q) : SmallC c := by
  have h1 := h.ok.b6
  have h2 := h.ok.f20
  have h3 := h.ok.r6
  exact ⟨by omega, by omega, by omega⟩
end Go.Sim
