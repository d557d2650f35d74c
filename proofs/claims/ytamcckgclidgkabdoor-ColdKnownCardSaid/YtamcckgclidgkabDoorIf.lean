/- The journal of a cellar and its lots, as it is written. -/
import Derived.Test.YtamcckgclidgkabDoorIe
import Derived.Test.YtamcckgclidgkabDoorLw
namespace Go.Sim
open Go.Proofs
set_option maxRecDepth 100000
set_option linter.unusedSimpArgs false
set_option linter.unusedVariables false
attribute [-simp] List.map_set List.map_take List.map_drop
set_option maxHeartbeats 4000000 in
theorem jrow_ok (ob : Go.Obj) (u : Bool) (v : Value) (bs : List UInt8) (word : ByteArray) (ns : List Int) (hw : word.size ≤ 100) (hbs : bs.length ≤ 1000000) (hns : ns.length ≤ 10) (hn : ∀ n ∈ ns, -9223372036854775808 ≤ n ∧ n ≤ 9223372036854775807) : ACalls Tryd.prog 43 [.val (.string word), ints ns, .ptr 10000 0 0] (bldO ob u v bs) (fun r o => ∃ v' : Value, r = .tup [] ∧ o = bldO ob true v' (bs ++ lineB word ns) ∧ True) := by
 have F := Fx.nil
 refine ent Tryd.func43 Tryd.ntmps43 Tryd.results43 ?_
 refine W.seqR ?_
 refine oN 1 ?_
 refine WOps.callM rfl rfl rfl rfl [(10000, 10000), (15000, 15000)] rfl [15000] rfl (by decide) (by simp; first | rfl | exact ⟨rfl, rfl⟩) (by simp; rfl) ?_
 refine CallT.mkE (WriteString_ok u v bs word (by omega)) (fun z8 hz8 => ⟨(by simp), ?_⟩)
 refine ⟨(by simp), ?_⟩
 refine WOps.norm (by simp; rfl) ?_
 refine oK [1, 2] ?_
 refine W.seqk fun K1 hK1 => ?_
 obtain ⟨Wf, qWf⟩ : ∃ Wf : Nat → List UInt8, Wf = fun i => bs ++ word.data.toList ++ numB (ns.take i) := ⟨_, rfl⟩
 have hW0 : Wf 0 = bs ++ word.data.toList := by rw [qWf]; simp [numB]
 have qWl : ∀ i, (Wf i).length ≤ 1010000 := fun i => by
   rw [qWf]
   show (bs ++ word.data.toList ++ numB (ns.take i)).length ≤ _
   rw [List.length_append, List.length_append]
   have h1 := numB_len (k := 21) (l := ns.take i) fun x hx => Lib.itoa_length_le x (hn x (List.mem_of_mem_take hx)).1 (hn x (List.mem_of_mem_take hx)).2
   have h2 : (ns.take i).length ≤ 10 := by rw [List.length_take]; omega
   have h3 : (ns.take i).length * 22 ≤ 10 * 22 := Nat.mul_le_mul_right _ h2
   have h4 : word.data.toList.length = word.size := Array.length_toList
   omega
 replace F := F.add hW0
 refine rK [2, 9, 10, 11] ?_
 refine W.block ?_
 refine lpa (α := Value × Nat) [2, 9, 10] [16, 18] [10000, 15000] (fun x => [(11, I x.2)]) (fun x => [(10000, .cus (boxC 99 true x.1)), (15000, .cus (bufC 5 x.1 (Wf x.2)))]) (fun x => x.2 ≤ ns.length) (fun x => ns.length - x.2) (z8, 0) v0 ?_
 ·
  intro ⟨y, i⟩ hI0
  simp only [List.cons_append, List.nil_append]
  try dsimp only at hI0
  replace F := F.add hI0
  refine rK [2, 9, 10, 11, 12] ?_
  refine W.seqk fun K2 hK2 => ?_
  refine it (fun hc1 => ?_) (fun hc1 => ?_)
  ·
   try simp at hc1
   replace F := F.add hc1
   refine W.skip ?_
   refine hK2 _ ?_
   clear hK2 K2
   refine W.seqk fun K3 hK3 => ?_
   refine W.block ?_
   have hil : i < ns.length := by omega
   obtain ⟨n, qn⟩ : ∃ n, ns[i] = n := ⟨_, rfl⟩
   have hnn := qn
   have qb := hn _ (List.getElem_mem hil)
   rw [qn] at qb
   have qsz : (numS n).size = (Lib.itoa n).length := List.size_toArray
   have qil := Lib.itoa_length_le n qb.1 qb.2
   obtain ⟨nS, qnS⟩ : ∃ nS, numS n = nS := ⟨_, rfl⟩
   have hnS := qnS
   rw [qnS] at qsz
   have hcat : spc.size + nS.size ≤ maxLen := by rw [qsz]; have : spc.size = 1 := rfl; unfold maxLen; omega
   have qcs : (spc ++ nS).size ≤ 22 := by rw [ByteArray.size_append, qsz]; have : spc.size = 1 := rfl; omega
   obtain ⟨sp, qsp⟩ : ∃ sp, spc ++ nS = sp := ⟨_, rfl⟩
   have hsp := qsp
   rw [qsp] at qcs
   have qlw := qWl i
   have hWs : Wf (i + 1) = Wf i ++ sp.data.toList := by
     rw [qWf, ← qsp, ← qnS]
     show bs ++ word.data.toList ++ numB (ns.take (i + 1)) = bs ++ word.data.toList ++ numB (ns.take i) ++ _
     rw [List.take_succ_eq_append_getElem hil, qn, numB_snoc]; simp only [List.append_assoc]
   replace F := F.add hil |>.add hnn |>.add hnS |>.add hcat |>.add hsp |>.add hWs
   refine rK [2, 6, 9, 10, 11] ?_
   refine W.region ?_
   refine oN 1 ?_
   refine oC [(10900, 10900)] ?_
   refine ct (Itoa_ok ob n qb.1 qb.2) ?_
   refine oN 1 ?_
   refine WOps.callM rfl rfl rfl rfl [(10000, 10000), (15000, 15000)] rfl [15000] rfl (by decide) (by simp [hW0, hI0, hc1, hil, hnn, hnS, hcat, hsp, hWs]; first | rfl | exact ⟨rfl, rfl⟩) (by simp [hW0, hI0, hc1, hil, hnn, hnS, hcat, hsp, hWs]; rfl) ?_
   refine CallT.mkE (WriteString_ok true y (Wf i) sp (by omega)) (fun z18 hz18 => ⟨(by simp [hW0, hI0, hc1, hil, hnn, hnS, hcat, hsp, hWs]), ?_⟩)
   refine ⟨(by simp [hW0, hI0, hc1, hil, hnn, hnS, hcat, hsp, hWs]), ?_⟩
   refine WOps.norm (by simp [hW0, hI0, hc1, hil, hnn, hnS, hcat, hsp, hWs]; rfl) ?_
   refine WOps.endK ?_
   refine hK3 _ ?_
   clear hK3 K3
   refine rEw ?_
   refine ⟨(z18, i + 1), lf0, v0, v0⟩
  ·
   try simp at hc1
   replace F := F.add hc1
   refine W.exit ?_
   refine hK1 _ ?_
   clear hK2 K2 hK1 K1
   have hin : i = ns.length := by omega
   have qln := qWl ns.length
   have qnl : nlS.size = 1 := rfl
   have qWn : Wf ns.length ++ nlS.data.toList = bs ++ lineB word ns := by
     rw [qWf]
     show bs ++ word.data.toList ++ numB (ns.take ns.length) ++ [10] = _
     rw [List.take_length]; unfold lineB; simp only [List.append_assoc]
   replace F := F.add hin
   refine W.region ?_
   refine WOps.callM rfl rfl rfl rfl [(10000, 10000), (15000, 15000)] rfl [15000] rfl (by decide) (by simp [hW0, hI0, hc1, hin]; first | rfl | exact ⟨rfl, rfl⟩) (by simp [hW0, hI0, hc1, hin]; rfl) ?_
   refine CallT.mkE (WriteString_ok true y (Wf ns.length) nlS (by omega)) (fun z20 hz20 => ⟨(by simp [hW0, hI0, hc1, hin]), ?_⟩)
   refine ⟨(by simp [hW0, hI0, hc1, hin]), ?_⟩
   refine WOps.norm (by simp [hW0, hI0, hc1, hin]; rfl) ?_
   refine WOps.endK ?_
   refine en false [] [(10000, 10000), (15000, 15000), (10900, 10900)] ?_
   exact ⟨z20, rfl, by rw [← qWn], trivial⟩
abbrev hallW : ByteArray := ⟨#[104, 97, 108, 108]⟩
abbrev boxW : ByteArray := ⟨#[98, 111, 120]⟩
abbrev filW : ByteArray := ⟨#[102, 105, 108, 108, 105, 110, 103]⟩
abbrev rateW : ByteArray := ⟨#[114, 97, 116, 101]⟩
abbrev lotW : ByteArray := ⟨#[108, 111, 116]⟩
abbrev stayW : ByteArray := ⟨#[115, 116, 97, 121]⟩
abbrev endW : ByteArray := ⟨#[101, 110, 100]⟩
def hJ (c : Cel) : List UInt8 := lineB hallW [c.hall.lo, c.hall.hi]
def bJ (b : CBox) : List UInt8 := lineB boxW [b.room, b.ice.lo, b.ice.hi, b.melt.lo, b.melt.hi, b.cld.lo, b.cld.hi, b.wrm.lo, b.wrm.hi]
def fJ (f : Fil) : List UInt8 := lineB filW [f.box, f.hour, f.grams]
def rJ (r : Rat) : List UInt8 := lineB rateW [r.above, r.loss]
def sJ (s : Sty) : List UInt8 := lineB stayW [s.box, s.frm, s.til]
def lJ (l : CLot) : List UInt8 := lineB lotW [l.born, l.keeps] ++ l.stays.flatMap sJ
def wrJ (c : Cel) (ls : List CLot) : List UInt8 := hJ c ++ c.boxes.flatMap bJ ++ c.fils.flatMap fJ ++ c.rats.flatMap rJ ++ ls.flatMap lJ ++ lineB endW [(ls.length : Int)]
def wrE (c : Cel) (ls : List CLot) : Int := if lotsErr c ls ≠ 0 then lotsErr c ls else if 3000 < (wrJ c ls).length then 10 else 0
def wrX (c : Cel) (ls : List CLot) : List UInt8 := if wrE c ls = 0 then wrJ c ls else []
theorem lineB_9 {w : ByteArray} {ns : List Int} (hw : w.size ≤ 10) (hn : ns.length ≤ 9) (h : ∀ n ∈ ns, -9223372036854775808 ≤ n ∧ n ≤ 9223372036854775807) : (lineB w ns).length ≤ 210 := by
  have h1 := numB_len (k := 21) (l := ns) fun x hx => Lib.itoa_length_le x (h x hx).1 (h x hx).2
  have h2 : ns.length * 22 ≤ 9 * 22 := Nat.mul_le_mul_right _ hn
  have h3 : w.data.toList.length = w.size := Array.length_toList
  unfold lineB
  rw [List.length_append, List.length_append, h3]
  simp only [List.length_singleton]
  omega
theorem all2 {p : Int → Prop} {a b : Int} (h1 : p a) (h2 : p b) : ∀ n ∈ [a, b], p n := by
  intro n hn; simp only [List.mem_cons, List.not_mem_nil, or_false] at hn; rcases hn with rfl | rfl <;> assumption
theorem all9 {p : Int → Prop} {a b c d e f g h i : Int} (h1 : p a) (h2 : p b) (h3 : p c) (h4 : p d) (h5 : p e) (h6 : p f) (h7 : p g) (h8 : p h) (h9 : p i) : ∀ n ∈ [a, b, c, d, e, f, g, h, i], p n := by
  intro n hn; simp only [List.mem_cons, List.not_mem_nil, or_false] at hn; rcases hn with rfl | rfl | rfl | rfl | rfl | rfl | rfl | rfl | rfl <;> assumption
theorem stays_bd {n : Nat} : ∀ {l : List Sty} {fr : Int}, StaysOk n fr l → ∀ s ∈ l, 0 ≤ s.box ∧ s.box < n ∧ 0 ≤ s.frm ∧ s.frm < s.til ∧ s.til ≤ 240
  | [], _, _, s, hs => by cases hs
  | x :: l, fr, h, s, hs => by
    obtain ⟨h1, h2, h3, h4, h5⟩ := h
    rcases List.mem_cons.1 hs with rfl | hs
    · omega
    · exact stays_bd h5 s hs
abbrev N64 (l : List Int) : Prop := ∀ n ∈ l, -9223372036854775808 ≤ n ∧ n ≤ 9223372036854775807
set_option maxHeartbeats 4000000 in
theorem Write_ok (ob : Go.Obj) (c : Cel) (ls : List CLot) : ACalls Tryd.prog 29 [celV c, lotsV ls] [(10900, tabO ob)] (fun r o => r = .tup [.val (.string ⟨(wrX c ls).toArray⟩), I (wrE c ls)] ∧ o = [(10900, tabO ob)]) := by
 have F := Fx.nil
 refine ent Tryd.func29 Tryd.ntmps29 Tryd.results29 ?_
 refine rK [1, 2] ?_
 refine W.seqk fun K1 hK1 => ?_
 refine W.seqR ?_
 refine oN 2 ?_
 refine oC [] ?_
 refine ct (checkLots_ok c ls) ?_
 refine oN 1 ?_
 refine oK [1, 2, 6] ?_
 refine rK [1, 2, 6, 23] ?_
 refine it (fun hc1 => ?_) (fun hc1 => ?_)
 ·
  try simp at hc1
  replace F := F.add hc1
  refine rK [4, 5] ?_
  refine W.ret ?_
  refine tr ?_
  clear hK1 K1
  refine er false [] [(10900, 10900)] ?_
  first
  | (have k1 : wrE c ls = lotsErr c ls := by rw [wrE, if_pos hc1]
     refine ⟨?_, rfl⟩
     rw [wrX, if_neg (by rw [k1]; exact hc1), k1])
  | (have k1 : wrE c ls = 10 := by rw [wrE, if_neg (fun k => k hc1), if_pos (by rw [← qfin, List.length_append]; omega)]
     refine ⟨?_, rfl⟩
     rw [wrX, if_neg (by rw [k1]; decide), k1])
  | (have k1 : wrE c ls = 0 := by rw [wrE, if_neg (fun k => k hc1), if_neg (by rw [← qfin, List.length_append]; omega)]
     refine ⟨?_, rfl⟩
     rw [wrX, if_pos k1, k1, ← qfin])
 ·
  try simp at hc1
  replace F := F.add hc1
  refine W.skip ?_
  refine hK1 _ ?_
  clear hK1 K1
  obtain ⟨qv, ql20, qlo⟩ := lotsErr_zero.1 hc1
  have hle : lotsErr c ls = 0 := hc1
  have hl20 : ls.length ≤ 20 := ql20
  have hb6 : c.boxes.length ≤ 6 := qv.b6
  have hf20 : c.fils.length ≤ 20 := qv.f20
  have hr6 : c.rats.length ≤ 6 := qv.r6
  have qH : N64 [c.hall.lo, c.hall.hi] := by have := qv.hall; exact all2 (by omega) (by omega)
  have qB : ∀ b ∈ c.boxes, N64 [b.room, b.ice.lo, b.ice.hi, b.melt.lo, b.melt.hi, b.cld.lo, b.cld.hi, b.wrm.lo, b.wrm.hi] := fun b hb => by
    have k := qv.bx b hb; have k1 := k.room; have k2 := k.ice; have k3 := k.melt; have k4 := k.cld; have k5 := k.wrm
    exact all9 (by omega) (by omega) (by omega) (by omega) (by omega) (by omega) (by omega) (by omega) (by omega)
  have qF : ∀ f ∈ c.fils, N64 [f.box, f.hour, f.grams] := fun f hf => by
    have k := qv.fl f hf; have k1 := k.box; have k2 := k.hour; have k3 := k.grams
    exact all3 (by omega) (by omega) (by omega)
  have qR : ∀ r ∈ c.rats, N64 [r.above, r.loss] := fun r hr => by
    have k := qv.rt r hr; have k1 := k.above; have k2 := k.loss
    exact all2 (by omega) (by omega)
  have qL : ∀ l ∈ ls, N64 [l.born, l.keeps] := fun l hl => by
    have k := qlo l hl; have k1 := k.born; have k2 := k.keeps
    exact all2 (by omega) (by omega)
  have qS : ∀ l ∈ ls, ∀ s ∈ l.stays, N64 [s.box, s.frm, s.til] := fun l hl s hs => by
    have k := stays_bd (qlo l hl).st s hs
    exact all3 (by omega) (by omega) (by omega)
  obtain ⟨F0, qF0⟩ : ∃ F, F = hJ c := ⟨_, rfl⟩
  obtain ⟨F1, qF1⟩ : ∃ F, F = F0 ++ c.boxes.flatMap bJ := ⟨_, rfl⟩
  obtain ⟨F2, qF2⟩ : ∃ F, F = F1 ++ c.fils.flatMap fJ := ⟨_, rfl⟩
  obtain ⟨F3_, qF3⟩ : ∃ F, F = F2 ++ c.rats.flatMap rJ := ⟨_, rfl⟩
  obtain ⟨F4, qF4⟩ : ∃ F, F = F3_ ++ ls.flatMap lJ := ⟨_, rfl⟩
  obtain ⟨A1, qA1⟩ : ∃ A : Nat → List UInt8, A = fun i => F0 ++ (c.boxes.take i).flatMap bJ := ⟨_, rfl⟩
  obtain ⟨A2, qA2⟩ : ∃ A : Nat → List UInt8, A = fun i => F1 ++ (c.fils.take i).flatMap fJ := ⟨_, rfl⟩
  obtain ⟨A3, qA3⟩ : ∃ A : Nat → List UInt8, A = fun i => F2 ++ (c.rats.take i).flatMap rJ := ⟨_, rfl⟩
  obtain ⟨A4, qA4⟩ : ∃ A : Nat → List UInt8, A = fun i => F3_ ++ (ls.take i).flatMap lJ := ⟨_, rfl⟩
  have hA10 : A1 0 = F0 := by rw [qA1]; simp
  have hA20 : A2 0 = F1 := by rw [qA2]; simp
  have hA30 : A3 0 = F2 := by rw [qA3]; simp
  have hA40 : A4 0 = F3_ := by rw [qA4]; simp
  have hA1n : A1 c.boxes.length = F1 := by rw [qA1, qF1]; show F0 ++ (c.boxes.take c.boxes.length).flatMap bJ = _; rw [List.take_length]
  have hA2n : A2 c.fils.length = F2 := by rw [qA2, qF2]; show F1 ++ (c.fils.take c.fils.length).flatMap fJ = _; rw [List.take_length]
  have hA3n : A3 c.rats.length = F3_ := by rw [qA3, qF3]; show F2 ++ (c.rats.take c.rats.length).flatMap rJ = _; rw [List.take_length]
  have hA4n : A4 ls.length = F4 := by rw [qA4, qF4]; show F3_ ++ (ls.take ls.length).flatMap lJ = _; rw [List.take_length]
  have hF0w : lineB hallW [c.hall.lo, c.hall.hi] = F0 := qF0.symm
  have qlF0 : F0.length ≤ 210 := by rw [qF0]; exact lineB_9 (by decide) (by simp) qH
  have ql1 : ∀ i, (A1 i).length ≤ 2000 := fun i => by
    rw [qA1]
    have h1 := flat_len (f := bJ) (k := 210) (l := c.boxes.take i) fun m hm => lineB_9 (by decide) (by simp) (qB m (List.mem_of_mem_take hm))
    have h2 : (c.boxes.take i).length ≤ 6 := by rw [List.length_take]; omega
    show (F0 ++ (c.boxes.take i).flatMap bJ).length ≤ _
    rw [List.length_append]
    omega
  have qlF1 : F1.length ≤ 2000 := by rw [← hA1n]; exact ql1 _
  have ql2 : ∀ i, (A2 i).length ≤ 7000 := fun i => by
    rw [qA2]
    have h1 := flat_len (f := fJ) (k := 210) (l := c.fils.take i) fun m hm => lineB_9 (by decide) (by simp) (qF m (List.mem_of_mem_take hm))
    have h2 : (c.fils.take i).length ≤ 20 := by rw [List.length_take]; omega
    show (F1 ++ (c.fils.take i).flatMap fJ).length ≤ _
    rw [List.length_append]
    omega
  have qlF2 : F2.length ≤ 7000 := by rw [← hA2n]; exact ql2 _
  have ql3 : ∀ i, (A3 i).length ≤ 9000 := fun i => by
    rw [qA3]
    have h1 := flat_len (f := rJ) (k := 210) (l := c.rats.take i) fun m hm => lineB_9 (by decide) (by simp) (qR m (List.mem_of_mem_take hm))
    have h2 : (c.rats.take i).length ≤ 6 := by rw [List.length_take]; omega
    show (F2 ++ (c.rats.take i).flatMap rJ).length ≤ _
    rw [List.length_append]
    omega
  have qlF3 : F3_.length ≤ 9000 := by rw [← hA3n]; exact ql3 _
  have qlS : ∀ l ∈ ls, ∀ j, ((l.stays.take j).flatMap sJ).length ≤ 1700 := fun l hl j => by
    have h1 := flat_len (f := sJ) (k := 210) (l := l.stays.take j) fun m hm => lineB_9 (by decide) (by simp) (qS l hl m (List.mem_of_mem_take hm))
    have h2 : (l.stays.take j).length ≤ 8 := by have := (qlo l hl).s8; rw [List.length_take]; omega
    omega
  have qlL : ∀ l ∈ ls, (lJ l).length ≤ 2000 := fun l hl => by
    have h1 := lineB_9 (w := lotW) (by decide) (by simp) (qL l hl)
    have h2 := qlS l hl l.stays.length
    rw [List.take_length] at h2
    unfold lJ
    rw [List.length_append]
    omega
  have ql4 : ∀ i, (A4 i).length ≤ 50000 := fun i => by
    rw [qA4]
    have h1 := flat_len (f := lJ) (k := 2000) (l := ls.take i) fun m hm => qlL m (List.mem_of_mem_take hm)
    have h2 : (ls.take i).length ≤ 20 := by rw [List.length_take]; omega
    show (F3_ ++ (ls.take i).flatMap lJ).length ≤ _
    rw [List.length_append]
    omega
  have qlF4 : F4.length ≤ 50000 := by rw [← hA4n]; exact ql4 _
  replace F := F.add hle |>.add hl20 |>.add hb6 |>.add hf20 |>.add hr6 |>.add hA10 |>.add hA20 |>.add hA30 |>.add hA40 |>.add hA1n |>.add hA2n |>.add hA3n |>.add hA4n |>.add hF0w
  refine W.seqR ?_
  refine WOps.allocB hΓ 56 9001 rfl rfl rfl rfl rfl (by rfl) (by simp [hc1, hle, hl20, hb6, hf20, hr6, hA10, hA20, hA30, hA40, hA1n, hA2n, hA3n, hA4n, hF0w]; all_goals rfl) ?_
  refine oK [1, 2, 7] ?_
  refine rK [1, 2, 7, 8] ?_
  refine W.seqR ?_
  refine oN 8 ?_
  refine WOps.callM rfl rfl rfl rfl [(10000, 56), (15000, 9001), (10900, 10900)] rfl [9001] rfl (by decide) (by simp [hc1, hle, hl20, hb6, hf20, hr6, hA10, hA20, hA30, hA40, hA1n, hA2n, hA3n, hA4n, hF0w]; first | rfl | exact ⟨rfl, rfl⟩) (by simp [hc1, hle, hl20, hb6, hf20, hr6, hA10, hA20, hA30, hA40, hA1n, hA2n, hA3n, hA4n, hF0w]; rfl) ?_
  refine CallT.mkE (jrow_ok ob false (.slice none 0 0) [] hallW [c.hall.lo, c.hall.hi] (by decide) (by simp) (by simp) qH) (fun z34 hz34 => ⟨(by simp [hc1, hle, hl20, hb6, hf20, hr6, hA10, hA20, hA30, hA40, hA1n, hA2n, hA3n, hA4n, hF0w]), ?_⟩)
  refine ⟨(by simp [hc1, hle, hl20, hb6, hf20, hr6, hA10, hA20, hA30, hA40, hA1n, hA2n, hA3n, hA4n, hF0w]), ?_⟩
  refine WOps.norm (by simp [hc1, hle, hl20, hb6, hf20, hr6, hA10, hA20, hA30, hA40, hA1n, hA2n, hA3n, hA4n, hF0w]; rfl) ?_
  refine oK [1, 2, 7, 8] ?_
  refine W.seqk fun K2 hK2 => ?_
  refine rK [1, 2, 7, 8, 36, 37, 38] ?_
  refine W.block ?_
  refine lpa (α := Value × Nat) [1, 2, 7, 8, 36, 37] [10, 69, 70] [56, 9001] (fun x => [(38, I x.2)]) (fun x => [(56, .cus (boxC 99 true x.1)), (9001, .cus (bufC 5 x.1 (A1 x.2)))]) (fun x => x.2 ≤ c.boxes.length) (fun x => c.boxes.length - x.2) (z34, 0) v0 ?_
  ·
   intro ⟨y1, i⟩ hI0
   simp only [List.cons_append, List.nil_append]
   try dsimp only at hI0
   replace F := F.add hI0
   refine rK [1, 2, 7, 8, 36, 37, 38, 39] ?_
   refine W.seqk fun K3 hK3 => ?_
   refine it (fun hc2 => ?_) (fun hc2 => ?_)
   ·
    try simp at hc2
    replace F := F.add hc2
    refine W.skip ?_
    refine hK3 _ ?_
    clear hK3 K3
    refine W.seqk fun K4 hK4 => ?_
    refine W.block ?_
    have hil : i < c.boxes.length := by omega
    obtain ⟨n1, n2, n3, n4, n5, n6, n7, n8, n9, qx⟩ : ∃ n1 n2 n3 n4 n5 n6 n7 n8 n9, c.boxes[i] = ⟨n1, ⟨n2, n3⟩, ⟨n4, n5⟩, ⟨n6, n7⟩, ⟨n8, n9⟩⟩ := ⟨_, _, _, _, _, _, _, _, _, rfl⟩
    have hx := qx
    have qn := qB _ (List.getElem_mem hil)
    rw [qx] at qn
    have qlw := ql1 i
    have hAs : A1 (i + 1) = A1 i ++ lineB boxW [n1, n2, n3, n4, n5, n6, n7, n8, n9] := by
      rw [qA1]
      show F0 ++ (c.boxes.take (i + 1)).flatMap bJ = F0 ++ (c.boxes.take i).flatMap bJ ++ _
      rw [flat_snoc hil, qx, List.append_assoc]; rfl
    replace F := F.add hil |>.add hx |>.add hAs
    refine rK [1, 2, 7, 8, 10, 36, 37, 38] ?_
    refine W.region ?_
    refine oN 28 ?_
    refine WOps.callM rfl rfl rfl rfl [(10000, 56), (15000, 9001), (10900, 10900)] rfl [9001] rfl (by decide) (by simp [hc1, hle, hl20, hb6, hf20, hr6, hA10, hA20, hA30, hA40, hA1n, hA2n, hA3n, hA4n, hF0w, hI0, hc2, hil, hx, hAs]; first | rfl | exact ⟨rfl, rfl⟩) (by simp [hc1, hle, hl20, hb6, hf20, hr6, hA10, hA20, hA30, hA40, hA1n, hA2n, hA3n, hA4n, hF0w, hI0, hc2, hil, hx, hAs]; rfl) ?_
    refine CallT.mkE (jrow_ok ob true y1 (A1 i) boxW [n1, n2, n3, n4, n5, n6, n7, n8, n9] (by decide) (by omega) (by simp) qn) (fun z70 hz70 => ⟨(by simp [hc1, hle, hl20, hb6, hf20, hr6, hA10, hA20, hA30, hA40, hA1n, hA2n, hA3n, hA4n, hF0w, hI0, hc2, hil, hx, hAs]), ?_⟩)
    refine ⟨(by simp [hc1, hle, hl20, hb6, hf20, hr6, hA10, hA20, hA30, hA40, hA1n, hA2n, hA3n, hA4n, hF0w, hI0, hc2, hil, hx, hAs]), ?_⟩
    refine WOps.norm (by simp [hc1, hle, hl20, hb6, hf20, hr6, hA10, hA20, hA30, hA40, hA1n, hA2n, hA3n, hA4n, hF0w, hI0, hc2, hil, hx, hAs]; rfl) ?_
    refine WOps.endK ?_
    refine hK4 _ ?_
    clear hK4 K4
    refine rEw ?_
    refine ⟨(z70, i + 1), lf0, v0, v0⟩
   ·
    try simp at hc2
    replace F := F.add hc2
    refine W.exit ?_
    refine hK2 _ ?_
    clear hK3 K3 hK2 K2
    refine W.seqk fun K5 hK5 => ?_
    have hin : i = c.boxes.length := by omega
    replace F := F.add hin
    refine rK [1, 2, 7, 8, 73, 74, 75] ?_
    refine W.block ?_
    refine lpa (α := Value × Nat) [1, 2, 7, 8, 73, 74] [12, 86, 87] [56, 9001] (fun x => [(75, I x.2)]) (fun x => [(56, .cus (boxC 99 true x.1)), (9001, .cus (bufC 5 x.1 (A2 x.2)))]) (fun x => x.2 ≤ c.fils.length) (fun x => c.fils.length - x.2) (y1, 0) v0 ?_
    ·
     intro ⟨y2, j⟩ hI1
     simp only [List.cons_append, List.nil_append]
     try dsimp only at hI1
     replace F := F.add hI1
     refine rK [1, 2, 7, 8, 73, 74, 75, 76] ?_
     refine W.seqk fun K6 hK6 => ?_
     refine it (fun hc3 => ?_) (fun hc3 => ?_)
     ·
      try simp at hc3
      replace F := F.add hc3
      refine W.skip ?_
      refine hK6 _ ?_
      clear hK6 K6
      refine W.seqk fun K7 hK7 => ?_
      refine W.block ?_
      have hjl : j < c.fils.length := by omega
      obtain ⟨n1, n2, n3, qx⟩ : ∃ n1 n2 n3, c.fils[j] = ⟨n1, n2, n3⟩ := ⟨_, _, _, rfl⟩
      have hx := qx
      have qn := qF _ (List.getElem_mem hjl)
      rw [qx] at qn
      have qlw := ql2 j
      have hAs : A2 (j + 1) = A2 j ++ lineB filW [n1, n2, n3] := by
        rw [qA2]
        show F1 ++ (c.fils.take (j + 1)).flatMap fJ = F1 ++ (c.fils.take j).flatMap fJ ++ _
        rw [flat_snoc hjl, qx, List.append_assoc]; rfl
      replace F := F.add hjl |>.add hx |>.add hAs
      refine rK [1, 2, 7, 8, 12, 73, 74, 75] ?_
      refine W.region ?_
      refine oN 8 ?_
      refine WOps.callM rfl rfl rfl rfl [(10000, 56), (15000, 9001), (10900, 10900)] rfl [9001] rfl (by decide) (by simp [hc1, hle, hl20, hb6, hf20, hr6, hA10, hA20, hA30, hA40, hA1n, hA2n, hA3n, hA4n, hF0w, hI0, hc2, hin, hI1, hc3, hjl, hx, hAs]; first | rfl | exact ⟨rfl, rfl⟩) (by simp [hc1, hle, hl20, hb6, hf20, hr6, hA10, hA20, hA30, hA40, hA1n, hA2n, hA3n, hA4n, hF0w, hI0, hc2, hin, hI1, hc3, hjl, hx, hAs]; rfl) ?_
      refine CallT.mkE (jrow_ok ob true y2 (A2 j) filW [n1, n2, n3] (by decide) (by omega) (by simp) qn) (fun z87 hz87 => ⟨(by simp [hc1, hle, hl20, hb6, hf20, hr6, hA10, hA20, hA30, hA40, hA1n, hA2n, hA3n, hA4n, hF0w, hI0, hc2, hin, hI1, hc3, hjl, hx, hAs]), ?_⟩)
      refine ⟨(by simp [hc1, hle, hl20, hb6, hf20, hr6, hA10, hA20, hA30, hA40, hA1n, hA2n, hA3n, hA4n, hF0w, hI0, hc2, hin, hI1, hc3, hjl, hx, hAs]), ?_⟩
      refine WOps.norm (by simp [hc1, hle, hl20, hb6, hf20, hr6, hA10, hA20, hA30, hA40, hA1n, hA2n, hA3n, hA4n, hF0w, hI0, hc2, hin, hI1, hc3, hjl, hx, hAs]; rfl) ?_
      refine WOps.endK ?_
      refine hK7 _ ?_
      clear hK7 K7
      refine rEw ?_
      refine ⟨(z87, j + 1), lf0, v0, v0⟩
     ·
      try simp at hc3
      replace F := F.add hc3
      refine W.exit ?_
      refine hK5 _ ?_
      clear hK6 K6 hK5 K5
      refine W.seqk fun K8 hK8 => ?_
      have hjn : j = c.fils.length := by omega
      replace F := F.add hjn
      refine rK [1, 7, 8, 90, 91, 92] ?_
      refine W.block ?_
      refine lpa (α := Value × Nat) [1, 7, 8, 90, 91] [14, 101, 102] [56, 9001] (fun x => [(92, I x.2)]) (fun x => [(56, .cus (boxC 99 true x.1)), (9001, .cus (bufC 5 x.1 (A3 x.2)))]) (fun x => x.2 ≤ c.rats.length) (fun x => c.rats.length - x.2) (y2, 0) v0 ?_
      ·
       intro ⟨y3, k⟩ hI2
       simp only [List.cons_append, List.nil_append]
       try dsimp only at hI2
       replace F := F.add hI2
       refine rK [1, 7, 8, 90, 91, 92, 93] ?_
       refine W.seqk fun K9 hK9 => ?_
       refine it (fun hc4 => ?_) (fun hc4 => ?_)
       ·
        try simp at hc4
        replace F := F.add hc4
        refine W.skip ?_
        refine hK9 _ ?_
        clear hK9 K9
        refine W.seqk fun K10 hK10 => ?_
        refine W.block ?_
        have hkl : k < c.rats.length := by omega
        obtain ⟨n1, n2, qx⟩ : ∃ n1 n2, c.rats[k] = ⟨n1, n2⟩ := ⟨_, _, rfl⟩
        have hx := qx
        have qn := qR _ (List.getElem_mem hkl)
        rw [qx] at qn
        have qlw := ql3 k
        have hAs : A3 (k + 1) = A3 k ++ lineB rateW [n1, n2] := by
          rw [qA3]
          show F2 ++ (c.rats.take (k + 1)).flatMap rJ = F2 ++ (c.rats.take k).flatMap rJ ++ _
          rw [flat_snoc hkl, qx, List.append_assoc]; rfl
        replace F := F.add hkl |>.add hx |>.add hAs
        refine rK [1, 7, 8, 14, 90, 91, 92] ?_
        refine W.region ?_
        refine oN 6 ?_
        refine WOps.callM rfl rfl rfl rfl [(10000, 56), (15000, 9001), (10900, 10900)] rfl [9001] rfl (by decide) (by simp [hc1, hle, hl20, hb6, hf20, hr6, hA10, hA20, hA30, hA40, hA1n, hA2n, hA3n, hA4n, hF0w, hI0, hc2, hin, hI1, hc3, hjn, hI2, hc4, hkl, hx, hAs]; first | rfl | exact ⟨rfl, rfl⟩) (by simp [hc1, hle, hl20, hb6, hf20, hr6, hA10, hA20, hA30, hA40, hA1n, hA2n, hA3n, hA4n, hF0w, hI0, hc2, hin, hI1, hc3, hjn, hI2, hc4, hkl, hx, hAs]; rfl) ?_
        refine CallT.mkE (jrow_ok ob true y3 (A3 k) rateW [n1, n2] (by decide) (by omega) (by simp) qn) (fun z102 hz102 => ⟨(by simp [hc1, hle, hl20, hb6, hf20, hr6, hA10, hA20, hA30, hA40, hA1n, hA2n, hA3n, hA4n, hF0w, hI0, hc2, hin, hI1, hc3, hjn, hI2, hc4, hkl, hx, hAs]), ?_⟩)
        refine ⟨(by simp [hc1, hle, hl20, hb6, hf20, hr6, hA10, hA20, hA30, hA40, hA1n, hA2n, hA3n, hA4n, hF0w, hI0, hc2, hin, hI1, hc3, hjn, hI2, hc4, hkl, hx, hAs]), ?_⟩
        refine WOps.norm (by simp [hc1, hle, hl20, hb6, hf20, hr6, hA10, hA20, hA30, hA40, hA1n, hA2n, hA3n, hA4n, hF0w, hI0, hc2, hin, hI1, hc3, hjn, hI2, hc4, hkl, hx, hAs]; rfl) ?_
        refine WOps.endK ?_
        refine hK10 _ ?_
        clear hK10 K10
        refine rEw ?_
        refine ⟨(z102, k + 1), lf0, v0, v0⟩
       ·
        try simp at hc4
        replace F := F.add hc4
        refine W.exit ?_
        refine hK8 _ ?_
        clear hK9 K9 hK8 K8
        refine W.seqk fun K11 hK11 => ?_
        have hkn : k = c.rats.length := by omega
        replace F := F.add hkn
        refine rK [1, 7, 8, 104, 105, 106] ?_
        refine W.block ?_
        refine lpa (α := Value × Nat) [1, 7, 8, 104, 105] [16, 18, 115, 116, 119, 131, 132] [56, 9001] (fun x => [(106, I x.2)]) (fun x => [(56, .cus (boxC 99 true x.1)), (9001, .cus (bufC 5 x.1 (A4 x.2)))]) (fun x => x.2 ≤ ls.length) (fun x => ls.length - x.2) (y3, 0) v0 ?_
        ·
         intro ⟨y4, a⟩ hI3
         simp only [List.cons_append, List.nil_append]
         try dsimp only at hI3
         replace F := F.add hI3
         refine rK [1, 7, 8, 104, 105, 106, 107] ?_
         refine W.seqk fun K12 hK12 => ?_
         refine it (fun hc5 => ?_) (fun hc5 => ?_)
         ·
          try simp at hc5
          replace F := F.add hc5
          refine W.skip ?_
          refine hK12 _ ?_
          clear hK12 K12
          refine W.seqk fun K13 hK13 => ?_
          refine W.block ?_
          have hal : a < ls.length := by omega
          obtain ⟨n1, n2, sl, qx⟩ : ∃ n1 n2 sl, ls[a] = ⟨n1, n2, sl⟩ := ⟨_, _, _, rfl⟩
          have hx := qx
          have qla := List.getElem_mem hal
          rw [qx] at qla
          have qn : N64 [n1, n2] := qL _ qla
          have qs : ∀ s ∈ sl, N64 [s.box, s.frm, s.til] := qS _ qla
          have hs8 : sl.length ≤ 8 := (qlo _ qla).s8
          have qlw := ql4 a
          have qlo1 := lineB_9 (w := lotW) (by decide) (by simp) qn
          have qst : ∀ j, ((sl.take j).flatMap sJ).length ≤ 1700 := qlS _ qla
          obtain ⟨B0, qB0⟩ : ∃ B, B = A4 a ++ lineB lotW [n1, n2] := ⟨_, rfl⟩
          have hB0 := qB0.symm
          obtain ⟨A5, qA5⟩ : ∃ A : Nat → List UInt8, A = fun i => B0 ++ (sl.take i).flatMap sJ := ⟨_, rfl⟩
          have hA50 : A5 0 = B0 := by rw [qA5]; simp
          have qlB : B0.length ≤ 51000 := by rw [qB0, List.length_append]; omega
          have ql5 : ∀ i, (A5 i).length ≤ 60000 := fun i => by
            rw [qA5]
            show (B0 ++ (sl.take i).flatMap sJ).length ≤ _
            have := qst i
            rw [List.length_append]
            omega
          have hAs : A4 (a + 1) = A5 sl.length := by
            rw [qA5, qB0, qA4]
            show F3_ ++ (ls.take (a + 1)).flatMap lJ = F3_ ++ (ls.take a).flatMap lJ ++ _ ++ (sl.take sl.length).flatMap sJ
            rw [flat_snoc hal, qx, List.take_length]
            show F3_ ++ ((ls.take a).flatMap lJ ++ (lineB lotW [n1, n2] ++ sl.flatMap sJ)) = _
            simp only [List.append_assoc]
          replace F := F.add hal |>.add hx |>.add hs8 |>.add hB0 |>.add hA50 |>.add hAs
          refine rK [1, 7, 8, 16, 104, 105, 106] ?_
          refine W.seqR ?_
          refine oN 6 ?_
          refine WOps.callM rfl rfl rfl rfl [(10000, 56), (15000, 9001), (10900, 10900)] rfl [9001] rfl (by decide) (by simp [hc1, hle, hl20, hb6, hf20, hr6, hA10, hA20, hA30, hA40, hA1n, hA2n, hA3n, hA4n, hF0w, hI0, hc2, hin, hI1, hc3, hjn, hI2, hc4, hkn, hI3, hc5, hal, hx, hs8, hB0, hA50, hAs]; first | rfl | exact ⟨rfl, rfl⟩) (by simp [hc1, hle, hl20, hb6, hf20, hr6, hA10, hA20, hA30, hA40, hA1n, hA2n, hA3n, hA4n, hF0w, hI0, hc2, hin, hI1, hc3, hjn, hI2, hc4, hkn, hI3, hc5, hal, hx, hs8, hB0, hA50, hAs]; rfl) ?_
          refine CallT.mkE (jrow_ok ob true y4 (A4 a) lotW [n1, n2] (by decide) (by omega) (by simp) qn) (fun z116 hz116 => ⟨(by simp [hc1, hle, hl20, hb6, hf20, hr6, hA10, hA20, hA30, hA40, hA1n, hA2n, hA3n, hA4n, hF0w, hI0, hc2, hin, hI1, hc3, hjn, hI2, hc4, hkn, hI3, hc5, hal, hx, hs8, hB0, hA50, hAs]), ?_⟩)
          refine ⟨(by simp [hc1, hle, hl20, hb6, hf20, hr6, hA10, hA20, hA30, hA40, hA1n, hA2n, hA3n, hA4n, hF0w, hI0, hc2, hin, hI1, hc3, hjn, hI2, hc4, hkn, hI3, hc5, hal, hx, hs8, hB0, hA50, hAs]), ?_⟩
          refine WOps.norm (by simp [hc1, hle, hl20, hb6, hf20, hr6, hA10, hA20, hA30, hA40, hA1n, hA2n, hA3n, hA4n, hF0w, hI0, hc2, hin, hI1, hc3, hjn, hI2, hc4, hkn, hI3, hc5, hal, hx, hs8, hB0, hA50, hAs]; rfl) ?_
          refine oK [1, 7, 8, 16, 104, 105, 106] ?_
          refine rK [1, 7, 8, 104, 105, 106, 118, 119, 120] ?_
          refine W.block ?_
          refine lpa (α := Value × Nat) [1, 7, 8, 104, 105, 106, 118, 119] [18, 131, 132] [56, 9001] (fun x => [(120, I x.2)]) (fun x => [(56, .cus (boxC 99 true x.1)), (9001, .cus (bufC 5 x.1 (A5 x.2)))]) (fun x => x.2 ≤ sl.length) (fun x => sl.length - x.2) (z116, 0) v0 ?_
          ·
           intro ⟨y5, b⟩ hI4
           simp only [List.cons_append, List.nil_append]
           try dsimp only at hI4
           replace F := F.add hI4
           refine rK [1, 7, 8, 104, 105, 106, 118, 119, 120, 121] ?_
           refine W.seqk fun K14 hK14 => ?_
           refine it (fun hc6 => ?_) (fun hc6 => ?_)
           ·
            try simp at hc6
            replace F := F.add hc6
            refine W.skip ?_
            refine hK14 _ ?_
            clear hK14 K14
            refine W.seqk fun K15 hK15 => ?_
            refine W.block ?_
            have hbl : b < sl.length := by omega
            obtain ⟨m1, m2, m3, qy⟩ : ∃ m1 m2 m3, sl[b] = ⟨m1, m2, m3⟩ := ⟨_, _, _, rfl⟩
            have hy := qy
            have qm := qs _ (List.getElem_mem hbl)
            rw [qy] at qm
            have qm : N64 [m1, m2, m3] := qm
            have qlv := ql5 b
            have hBs : A5 (b + 1) = A5 b ++ lineB stayW [m1, m2, m3] := by
              rw [qA5]
              show B0 ++ (sl.take (b + 1)).flatMap sJ = B0 ++ (sl.take b).flatMap sJ ++ _
              rw [flat_snoc hbl, qy, List.append_assoc]; rfl
            replace F := F.add hbl |>.add hy |>.add hBs
            refine rK [1, 7, 8, 18, 104, 105, 106, 118, 119, 120] ?_
            refine W.region ?_
            refine oN 8 ?_
            refine WOps.callM rfl rfl rfl rfl [(10000, 56), (15000, 9001), (10900, 10900)] rfl [9001] rfl (by decide) (by simp [hc1, hle, hl20, hb6, hf20, hr6, hA10, hA20, hA30, hA40, hA1n, hA2n, hA3n, hA4n, hF0w, hI0, hc2, hin, hI1, hc3, hjn, hI2, hc4, hkn, hI3, hc5, hal, hx, hs8, hB0, hA50, hAs, hI4, hc6, hbl, hy, hBs]; first | rfl | exact ⟨rfl, rfl⟩) (by simp [hc1, hle, hl20, hb6, hf20, hr6, hA10, hA20, hA30, hA40, hA1n, hA2n, hA3n, hA4n, hF0w, hI0, hc2, hin, hI1, hc3, hjn, hI2, hc4, hkn, hI3, hc5, hal, hx, hs8, hB0, hA50, hAs, hI4, hc6, hbl, hy, hBs]; rfl) ?_
            refine CallT.mkE (jrow_ok ob true y5 (A5 b) stayW [m1, m2, m3] (by decide) (by omega) (by simp) qm) (fun z132 hz132 => ⟨(by simp [hc1, hle, hl20, hb6, hf20, hr6, hA10, hA20, hA30, hA40, hA1n, hA2n, hA3n, hA4n, hF0w, hI0, hc2, hin, hI1, hc3, hjn, hI2, hc4, hkn, hI3, hc5, hal, hx, hs8, hB0, hA50, hAs, hI4, hc6, hbl, hy, hBs]), ?_⟩)
            refine ⟨(by simp [hc1, hle, hl20, hb6, hf20, hr6, hA10, hA20, hA30, hA40, hA1n, hA2n, hA3n, hA4n, hF0w, hI0, hc2, hin, hI1, hc3, hjn, hI2, hc4, hkn, hI3, hc5, hal, hx, hs8, hB0, hA50, hAs, hI4, hc6, hbl, hy, hBs]), ?_⟩
            refine WOps.norm (by simp [hc1, hle, hl20, hb6, hf20, hr6, hA10, hA20, hA30, hA40, hA1n, hA2n, hA3n, hA4n, hF0w, hI0, hc2, hin, hI1, hc3, hjn, hI2, hc4, hkn, hI3, hc5, hal, hx, hs8, hB0, hA50, hAs, hI4, hc6, hbl, hy, hBs]; rfl) ?_
            refine WOps.endK ?_
            refine hK15 _ ?_
            clear hK15 K15
            refine rEw ?_
            refine ⟨(z132, b + 1), lf0, v0, v0⟩
           ·
            try simp at hc6
            replace F := F.add hc6
            refine W.exit ?_
            refine hK13 _ ?_
            clear hK14 K14 hK13 K13
            have hbn : b = sl.length := by omega
            replace F := F.add hbn
            refine rEw ?_
            refine ⟨(y5, a + 1), lf0, v0, v0⟩
         ·
          try simp at hc5
          replace F := F.add hc5
          refine W.exit ?_
          refine hK11 _ ?_
          clear hK12 K12 hK11 K11
          have han : a = ls.length := by omega
          have qdn : N64 [(ls.length : Int)] := fun n hn => by
            have : n = (ls.length : Int) := by simpa using hn
            omega
          have qfin : F4 ++ lineB endW [(ls.length : Int)] = wrJ c ls := by rw [qF4, qF3, qF2, qF1, qF0]; rfl
          have qne : F4 ++ lineB endW [(ls.length : Int)] ≠ [] := by simp [lineB]
          replace F := F.add han
          refine W.seqR ?_
          refine oN 4 ?_
          refine WOps.callM rfl rfl rfl rfl [(10000, 56), (15000, 9001), (10900, 10900)] rfl [9001] rfl (by decide) (by simp [hc1, hle, hl20, hb6, hf20, hr6, hA10, hA20, hA30, hA40, hA1n, hA2n, hA3n, hA4n, hF0w, hI0, hc2, hin, hI1, hc3, hjn, hI2, hc4, hkn, hI3, hc5, han]; first | rfl | exact ⟨rfl, rfl⟩) (by simp [hc1, hle, hl20, hb6, hf20, hr6, hA10, hA20, hA30, hA40, hA1n, hA2n, hA3n, hA4n, hF0w, hI0, hc2, hin, hI1, hc3, hjn, hI2, hc4, hkn, hI3, hc5, han]; rfl) ?_
          refine CallT.mkE (jrow_ok ob true y4 F4 endW [(ls.length : Int)] (by decide) (by omega) (by simp) qdn) (fun z139 hz139 => ⟨(by simp [hc1, hle, hl20, hb6, hf20, hr6, hA10, hA20, hA30, hA40, hA1n, hA2n, hA3n, hA4n, hF0w, hI0, hc2, hin, hI1, hc3, hjn, hI2, hc4, hkn, hI3, hc5, han]), ?_⟩)
          refine ⟨(by simp [hc1, hle, hl20, hb6, hf20, hr6, hA10, hA20, hA30, hA40, hA1n, hA2n, hA3n, hA4n, hF0w, hI0, hc2, hin, hI1, hc3, hjn, hI2, hc4, hkn, hI3, hc5, han]), ?_⟩
          refine WOps.norm (by simp [hc1, hle, hl20, hb6, hf20, hr6, hA10, hA20, hA30, hA40, hA1n, hA2n, hA3n, hA4n, hF0w, hI0, hc2, hin, hI1, hc3, hjn, hI2, hc4, hkn, hI3, hc5, han]; rfl) ?_
          refine oK [7] ?_
          refine W.seqk fun K16 hK16 => ?_
          refine W.seqR ?_
          refine WOps.callM rfl rfl rfl rfl [(10000, 56), (15000, 9001)] rfl [9001] rfl (by decide) (by simp [hc1, hle, hl20, hb6, hf20, hr6, hA10, hA20, hA30, hA40, hA1n, hA2n, hA3n, hA4n, hF0w, hI0, hc2, hin, hI1, hc3, hjn, hI2, hc4, hkn, hI3, hc5, han]; first | rfl | exact ⟨rfl, rfl⟩) (by simp [hc1, hle, hl20, hb6, hf20, hr6, hA10, hA20, hA30, hA40, hA1n, hA2n, hA3n, hA4n, hF0w, hI0, hc2, hin, hI1, hc3, hjn, hI2, hc4, hkn, hI3, hc5, han]; rfl) ?_
          refine CallT.mk (Len_ok true z139 (F4 ++ lineB endW [(ls.length : Int)])) (by simp [hc1, hle, hl20, hb6, hf20, hr6, hA10, hA20, hA30, hA40, hA1n, hA2n, hA3n, hA4n, hF0w, hI0, hc2, hin, hI1, hc3, hjn, hI2, hc4, hkn, hI3, hc5, han]) ?_
          refine ⟨(by simp [hc1, hle, hl20, hb6, hf20, hr6, hA10, hA20, hA30, hA40, hA1n, hA2n, hA3n, hA4n, hF0w, hI0, hc2, hin, hI1, hc3, hjn, hI2, hc4, hkn, hI3, hc5, han]), ?_⟩
          refine WOps.norm (by simp [hc1, hle, hl20, hb6, hf20, hr6, hA10, hA20, hA30, hA40, hA1n, hA2n, hA3n, hA4n, hF0w, hI0, hc2, hin, hI1, hc3, hjn, hI2, hc4, hkn, hI3, hc5, han]; rfl) ?_
          refine oN 1 ?_
          refine oK [7, 141] ?_
          refine it (fun hc7 => ?_) (fun hc7 => ?_)
          ·
           try simp at hc7
           replace F := F.add hc7
           refine rK [4, 5] ?_
           refine W.ret ?_
           refine tr ?_
           clear hK16 K16
           refine er false [] [(10900, 10900)] ?_
           first
           | (have k1 : wrE c ls = lotsErr c ls := by rw [wrE, if_pos hc1]
              refine ⟨?_, rfl⟩
              rw [wrX, if_neg (by rw [k1]; exact hc1), k1])
           | (have k1 : wrE c ls = 10 := by rw [wrE, if_neg (fun k => k hc1), if_pos (by rw [← qfin, List.length_append]; omega)]
              refine ⟨?_, rfl⟩
              rw [wrX, if_neg (by rw [k1]; decide), k1])
           | (have k1 : wrE c ls = 0 := by rw [wrE, if_neg (fun k => k hc1), if_neg (by rw [← qfin, List.length_append]; omega)]
              refine ⟨?_, rfl⟩
              rw [wrX, if_pos k1, k1, ← qfin])
          ·
           try simp at hc7
           replace F := F.add hc7
           refine W.skip ?_
           refine hK16 _ ?_
           clear hK16 K16
           refine W.seqR ?_
           refine WOps.callM rfl rfl rfl rfl [(10000, 56), (15000, 9001)] rfl [9001] rfl (by decide) (by simp [hc1, hle, hl20, hb6, hf20, hr6, hA10, hA20, hA30, hA40, hA1n, hA2n, hA3n, hA4n, hF0w, hI0, hc2, hin, hI1, hc3, hjn, hI2, hc4, hkn, hI3, hc5, han, hc7]; first | rfl | exact ⟨rfl, rfl⟩) (by simp [hc1, hle, hl20, hb6, hf20, hr6, hA10, hA20, hA30, hA40, hA1n, hA2n, hA3n, hA4n, hF0w, hI0, hc2, hin, hI1, hc3, hjn, hI2, hc4, hkn, hI3, hc5, han, hc7]; rfl) ?_
           refine CallT.mk (String_ok true z139 (F4 ++ lineB endW [(ls.length : Int)]) qne) (by simp [hc1, hle, hl20, hb6, hf20, hr6, hA10, hA20, hA30, hA40, hA1n, hA2n, hA3n, hA4n, hF0w, hI0, hc2, hin, hI1, hc3, hjn, hI2, hc4, hkn, hI3, hc5, han, hc7]) ?_
           refine ⟨(by simp [hc1, hle, hl20, hb6, hf20, hr6, hA10, hA20, hA30, hA40, hA1n, hA2n, hA3n, hA4n, hF0w, hI0, hc2, hin, hI1, hc3, hjn, hI2, hc4, hkn, hI3, hc5, han, hc7]), ?_⟩
           refine WOps.norm (by simp [hc1, hle, hl20, hb6, hf20, hr6, hA10, hA20, hA30, hA40, hA1n, hA2n, hA3n, hA4n, hF0w, hI0, hc2, hin, hI1, hc3, hjn, hI2, hc4, hkn, hI3, hc5, han, hc7]; rfl) ?_
           refine oN 2 ?_
           refine oK [4, 5] ?_
           refine W.ret ?_
           refine er false [] [(10900, 10900)] ?_
           first
           | (have k1 : wrE c ls = lotsErr c ls := by rw [wrE, if_pos hc1]
              refine ⟨?_, rfl⟩
              rw [wrX, if_neg (by rw [k1]; exact hc1), k1])
           | (have k1 : wrE c ls = 10 := by rw [wrE, if_neg (fun k => k hc1), if_pos (by rw [← qfin, List.length_append]; omega)]
              refine ⟨?_, rfl⟩
              rw [wrX, if_neg (by rw [k1]; decide), k1])
           | (have k1 : wrE c ls = 0 := by rw [wrE, if_neg (fun k => k hc1), if_neg (by rw [← qfin, List.length_append]; omega)]
              refine ⟨?_, rfl⟩
              rw [wrX, if_pos k1, k1, ← qfin])
end Go.Sim
