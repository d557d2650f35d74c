/- The paper of a bench, as it is written. -/
import Derived.Test.YtfcmfoacedbleaaDoorIa
import Derived.Test.YtfcmfoacedbleaaDoorLa
import Derived.Lib.ItoaLen
namespace Go.Sim
open Go.Proofs
set_option maxRecDepth 100000
set_option linter.unusedSimpArgs false
set_option linter.unusedVariables false
attribute [-simp] List.map_set List.map_take List.map_drop
attribute [simp] spn_eta
section
variable {P : Program} {Γ : TypeId → Option TI}
/-- a builder that is made -/
theorem WOps.allocB (hΓ : TOk P Γ) {ops rest : List Oper} {K : St → Prop} {o : Oper} {st s2 : St} {t : TypeId} {ti : TI} (id nid : Nat)
    (ho : o.op = .alloc t) (hg : o.guard = none) (hd : dstOk o st = true) (hti : Γ t = some ti) (hz : ti.zero = .agg #[.pointer none, .slice none 0 0]) (hc : (unp id && unp nid && !(id == nid)) = true)
    (hs : ((st.renew id (.cus (boxC t false (.slice none 0 0)))).renew nid (.cus (bufC 5 (.slice none 0 0) []))).put o.dst (.ptr id 0 0) = s2) (hK : WOps P ops K rest s2) : WOps P ops K (o :: rest) st := by
  subst hs
  simp only [Bool.and_eq_true, Bool.not_eq_true', beq_eq_false_iff_ne] at hc
  obtain ⟨⟨hu, hu2⟩, hne⟩ := hc
  refine ⟨hd, true, by simp [wantedA, hg], ?_⟩
  simp only [if_true]
  intro rd a w e h next Q hnext
  let m : Mta := mt (some w.heap.size) 1 2
  let w1 := w.alloc (.cells #[.pointer none, .slice none 0 0] t)
  have hold : ∀ b, b < w.heap.size → w1.heap[b]? = w.heap[b]? := fun b hb => heap_alloc_old w _ hb
  have hnew : w1.heap[w.heap.size]? = some (.cells #[.pointer none, .slice none 0 0] t (0, 0)) := heap_alloc_new w _
  have hfr : Fr w e w1 (e.set id m) := by
    refine ⟨rfl, rfl, rfl, by simp [w1], fun b hb _ => hold b hb, fun b ho hb => ?_, rfl, Pinned.of fun j hj => by simp [Env.set, unp_ne hu hj]⟩
    obtain ⟨j, mj, hj, hm⟩ := ho
    simp only [Env.set] at hj
    split at hj
    · cases hj; rw [Mta.has_mk] at hm; cases hm; omega
    · exact ⟨j, mj, hj, hm⟩
  have c1 : Conc (st.renew id (.cus (boxC t false (.slice none 0 0)))) a w1 (e.set id m) := by
    refine h.renew id _ m hfr (fun b hb j m' hj hm' hb' => ?_) (fun j m' b hj hm' hb' => hold b (h.sim.blk_lt hm' hb')) ?_ (fun b hb => ?_)
    · rw [Mta.has_mk] at hb; cases hb; have := h.sim.blk_lt hm' hb'; omega
    · refine ⟨⟨w.heap.size, rfl, rfl, fun _ k => k, by simpa using hnew⟩, fun hg => absurd hg.1 (by simp [m]), fun b hb => ?_, boxC_stab _ _ _⟩
      rw [Mta.has_mk] at hb; cases hb
      simp [w1]
    · rw [Mta.has_mk] at hb; cases hb; exact h.sim.new _ (Nat.le_refl _)
  let m2 : Mta := mt none 0 1
  have hfr2 : Fr w1 (e.set id m) w1 ((e.set id m).set nid m2) := by
    refine ⟨rfl, rfl, rfl, Nat.le_refl _, fun b hb _ => rfl, fun b ho hb => ?_, rfl, Pinned.of fun j hj => by simp [Env.set, unp_ne hu2 hj]⟩
    obtain ⟨j, mj, hj, hm⟩ := ho
    simp only [Env.set] at hj
    split at hj
    · cases hj; rw [Mta.has_mk] at hm; cases hm
    · rename_i k; exact ⟨j, mj, by simpa only [Env.set] using hj, hm⟩
  have c2 := c1.renew nid (.cus (bufC 5 (.slice none 0 0) [])) m2 hfr2 (fun b hb => by rw [Mta.has_mk] at hb; cases hb) (fun _ _ _ _ _ _ => rfl)
    ⟨⟨rfl, rfl, fun _ k => k, ⟨rfl, .inl ⟨rfl, rfl⟩⟩⟩, fun hg => absurd hg.2 (by simp [m2]), fun b hb => (by rw [Mta.has_mk] at hb; cases hb), bufC_stab _ _ _⟩ (fun b hb => by rw [Mta.has_mk] at hb; cases hb)
  refine ⟨fun _ _ => trivial, ?_⟩
  have hrun : (Instr.alloc t true (.tuple #[])).run P w = .ok (.pointer (some ⟨w.heap.size, 0, none⟩)) w1 := by
    rw [run_alloc_box (hΓ _ _ hti), hz]
    simp [Instr.box, newVar, newRow, World.alloc_eq, w1, Value.cells]
  have hst : (execOp a.eval o).run P w = .ok (.value (.pointer (some ⟨w.heap.size, 0, none⟩))) w1 := by simp [execOp, ho, hrun]
  rw [semAt_ok hst (by simp)]
  refine hnext (.ptr id 0 0) _ _ w1 _ hK c2 (hfr.trans hfr2) ?_
  have := Rd.ptr (w := w1) (e := (e.set id m).set nid m2) id 0 0 m w.heap.size (by simp [Env.set, hne]) rfl
  simpa using this
end
@[simp] theorem boxC_fr {t : TypeId} {u : Bool} {v : Value} : (boxC t u v).fr = true := rfl
@[simp] theorem bufC_fr {t : TypeId} {v : Value} {bs : List UInt8} : (bufC t v bs).fr = true := rfl
@[simp] theorem tabC_fr {P : Program} {n : String} {ob : Go.Obj} : (tabC P n ob).fr = true := rfl
abbrev spc : ByteArray := ⟨#[32]⟩
abbrev nlS : ByteArray := ⟨#[10]⟩
/-- numbers, a blank ahead of each -/
def numB : List Int → List UInt8
  | [] => []
  | n :: l => 32 :: (Lib.itoa n ++ numB l)
def lineB (word : ByteArray) (ns : List Int) : List UInt8 := word.data.toList ++ (numB ns ++ [10])
theorem numB_snoc (n : Int) : ∀ l : List Int, numB (l ++ [n]) = numB l ++ (spc ++ numS n).data.toList
  | [] => by simp [numB, spc, numS]
  | x :: l => by rw [List.cons_append, numB, numB, numB_snoc n l, List.cons_append, List.append_assoc]
theorem numB_len {k : Nat} : ∀ {l : List Int}, (∀ n ∈ l, (Lib.itoa n).length ≤ k) → (numB l).length ≤ l.length * (k + 1)
  | [], _ => by simp [numB]
  | n :: l, h => by
    have h1 := h n (List.mem_cons_self ..)
    have h2 := numB_len (k := k) (l := l) fun x hx => h x (List.mem_cons_of_mem _ hx)
    rw [numB, List.length_cons, List.length_append, List.length_cons, Nat.add_mul]
    omega
abbrev bldO (ob : Go.Obj) (u : Bool) (v : Value) (bs : List UInt8) : List (Nat × Obj) := [(10000, .cus (boxC 118 u v)), (15000, .cus (bufC 5 v bs)), (10900, tabO ob)]
set_option maxHeartbeats 4000000 in
theorem row_ok (ob : Go.Obj) (u : Bool) (v : Value) (bs : List UInt8) (word : ByteArray) (ns : List Int) (hw : word.size ≤ 100) (hbs : bs.length ≤ 1000000) (hns : ns.length ≤ 10) (hn : ∀ n ∈ ns, -9223372036854775808 ≤ n ∧ n ≤ 9223372036854775807) : ACalls Tryd.prog 58 [.val (.string word), ints ns, .ptr 10000 0 0] (bldO ob u v bs) (fun r o => ∃ v' : Value, r = .tup [] ∧ o = bldO ob true v' (bs ++ lineB word ns) ∧ True) := by
 have F := Fx.nil
 refine ent Tryd.func58 Tryd.ntmps58 Tryd.results58 ?_
 refine W.seqR ?_
 refine oN 1 ?_
 refine WOps.callM rfl rfl rfl rfl [(10000, 10000), (15000, 15000)] rfl [15000] rfl (by decide) (by simp; first | rfl | exact ⟨rfl, rfl⟩) (by simp; rfl) ?_
 refine CallT.mkE (WriteString_ok u v bs word (by omega)) (fun z8 hz8 => ⟨(by simp), ?_⟩)
 refine ⟨(by simp), ?_⟩
 refine WOps.norm (by simp; rfl) ?_
 refine oK [1, 2] ?_
 refine W.seqk fun K1 hK1 => ?_
 obtain ⟨Wf, qWf⟩ : ∃ Wf : Nat → List UInt8, Wf = fun i => bs ++ word.data.toList ++ numB (ns.take i) := ⟨_, rfl⟩
 have hW0 : Wf 0 = bs ++ word.data.toList := by rw [qWf]; simp [numB]
 have qWl : ∀ i, (Wf i).length ≤ 1010000 := fun i => by
   rw [qWf]
   show (bs ++ word.data.toList ++ numB (ns.take i)).length ≤ _
   rw [List.length_append, List.length_append]
   have h1 := numB_len (k := 21) (l := ns.take i) fun x hx => Lib.itoa_length_le x (hn x (List.mem_of_mem_take hx)).1 (hn x (List.mem_of_mem_take hx)).2
   have h2 : (ns.take i).length ≤ 10 := by rw [List.length_take]; omega
   have h3 : (ns.take i).length * 22 ≤ 10 * 22 := Nat.mul_le_mul_right _ h2
   have h4 : word.data.toList.length = word.size := Array.length_toList
   omega
 replace F := F.add hW0
 refine rK [2, 9, 10, 11] ?_
 refine W.block ?_
 refine lpa (α := Value × Nat) [2, 9, 10] [16, 18] [10000, 15000] (fun x => [(11, I x.2)]) (fun x => [(10000, .cus (boxC 118 true x.1)), (15000, .cus (bufC 5 x.1 (Wf x.2)))]) (fun x => x.2 ≤ ns.length) (fun x => ns.length - x.2) (z8, 0) v0 ?_
 ·
  intro ⟨y, i⟩ hI0
  simp only [List.cons_append, List.nil_append]
  try dsimp only at hI0
  replace F := F.add hI0
  refine rK [2, 9, 10, 11, 12] ?_
  refine W.seqk fun K2 hK2 => ?_
  refine it (fun hc1 => ?_) (fun hc1 => ?_)
  ·
   try simp at hc1
   replace F := F.add hc1
   refine W.skip ?_
   refine hK2 _ ?_
   clear hK2 K2
   refine W.seqk fun K3 hK3 => ?_
   refine W.block ?_
   have hil : i < ns.length := by omega
   obtain ⟨n, qn⟩ : ∃ n, ns[i] = n := ⟨_, rfl⟩
   have hnn := qn
   have qb := hn _ (List.getElem_mem hil)
   rw [qn] at qb
   have qsz : (numS n).size = (Lib.itoa n).length := List.size_toArray
   have qil := Lib.itoa_length_le n qb.1 qb.2
   obtain ⟨nS, qnS⟩ : ∃ nS, numS n = nS := ⟨_, rfl⟩
   have hnS := qnS
   rw [qnS] at qsz
   have hcat : spc.size + nS.size ≤ maxLen := by rw [qsz]; have : spc.size = 1 := rfl; unfold maxLen; omega
   have qcs : (spc ++ nS).size ≤ 22 := by rw [ByteArray.size_append, qsz]; have : spc.size = 1 := rfl; omega
   obtain ⟨sp, qsp⟩ : ∃ sp, spc ++ nS = sp := ⟨_, rfl⟩
   have hsp := qsp
   rw [qsp] at qcs
   have qlw := qWl i
   have hWs : Wf (i + 1) = Wf i ++ sp.data.toList := by
     rw [qWf, ← qsp, ← qnS]
     show bs ++ word.data.toList ++ numB (ns.take (i + 1)) = bs ++ word.data.toList ++ numB (ns.take i) ++ _
     rw [List.take_succ_eq_append_getElem hil, qn, numB_snoc]; simp only [List.append_assoc]
   replace F := F.add hil |>.add hnn |>.add hnS |>.add hcat |>.add hsp |>.add hWs
   refine rK [2, 6, 9, 10, 11] ?_
   refine W.region ?_
   refine oN 1 ?_
   refine oC [(10900, 10900)] ?_
   refine ct (Itoa_ok ob n qb.1 qb.2) ?_
   refine oN 1 ?_
   refine WOps.callM rfl rfl rfl rfl [(10000, 10000), (15000, 15000)] rfl [15000] rfl (by decide) (by simp [hW0, hI0, hc1, hil, hnn, hnS, hcat, hsp, hWs]; first | rfl | exact ⟨rfl, rfl⟩) (by simp [hW0, hI0, hc1, hil, hnn, hnS, hcat, hsp, hWs]; rfl) ?_
   refine CallT.mkE (WriteString_ok true y (Wf i) sp (by omega)) (fun z18 hz18 => ⟨(by simp [hW0, hI0, hc1, hil, hnn, hnS, hcat, hsp, hWs]), ?_⟩)
   refine ⟨(by simp [hW0, hI0, hc1, hil, hnn, hnS, hcat, hsp, hWs]), ?_⟩
   refine WOps.norm (by simp [hW0, hI0, hc1, hil, hnn, hnS, hcat, hsp, hWs]; rfl) ?_
   refine WOps.endK ?_
   refine hK3 _ ?_
   clear hK3 K3
   refine rEw ?_
   refine ⟨(z18, i + 1), lf0, v0, v0⟩
  ·
   try simp at hc1
   replace F := F.add hc1
   refine W.exit ?_
   refine hK1 _ ?_
   clear hK2 K2 hK1 K1
   have hin : i = ns.length := by omega
   have qln := qWl ns.length
   have qnl : nlS.size = 1 := rfl
   have qWn : Wf ns.length ++ nlS.data.toList = bs ++ lineB word ns := by
     rw [qWf]
     show bs ++ word.data.toList ++ numB (ns.take ns.length) ++ [10] = _
     rw [List.take_length]; unfold lineB; simp only [List.append_assoc]
   replace F := F.add hin
   refine W.region ?_
   refine WOps.callM rfl rfl rfl rfl [(10000, 10000), (15000, 15000)] rfl [15000] rfl (by decide) (by simp [hW0, hI0, hc1, hin]; first | rfl | exact ⟨rfl, rfl⟩) (by simp [hW0, hI0, hc1, hin]; rfl) ?_
   refine CallT.mkE (WriteString_ok true y (Wf ns.length) nlS (by omega)) (fun z20 hz20 => ⟨(by simp [hW0, hI0, hc1, hin]), ?_⟩)
   refine ⟨(by simp [hW0, hI0, hc1, hin]), ?_⟩
   refine WOps.norm (by simp [hW0, hI0, hc1, hin]; rfl) ?_
   refine WOps.endK ?_
   refine en false [] [(10000, 10000), (15000, 15000), (10900, 10900)] ?_
   exact ⟨z20, rfl, by rw [← qWn], trivial⟩
abbrev massW : ByteArray := ⟨#[109, 97, 115, 115]⟩
abbrev weigW : ByteArray := ⟨#[119, 101, 105, 103, 104, 105, 110, 103]⟩
abbrev scalW : ByteArray := ⟨#[115, 99, 97, 108, 101]⟩
abbrev triaW : ByteArray := ⟨#[116, 114, 105, 97, 108]⟩
abbrev endW : ByteArray := ⟨#[101, 110, 100]⟩
def mW (m : Mas) : List UInt8 := lineB massW [m.nom, m.off.lo, m.off.hi]
def wW (w : Wei) : List UInt8 := lineB weigW [w.a, w.b, w.dif.lo, w.dif.hi]
def cW (s : Scl) : List UInt8 := lineB scalW [s.fst.lo, s.fst.hi, s.dri.lo, s.dri.hi]
def tW (t : Tri) : List UInt8 := lineB triaW [t.sc, t.day, t.ms, t.sh]
def wrB (b : Ben) : List UInt8 := b.mas.flatMap mW ++ b.wei.flatMap wW ++ b.scl.flatMap cW ++ b.tri.flatMap tW ++ lineB endW [b.days]
theorem flat_len {α : Type} {f : α → List UInt8} {k : Nat} : ∀ {l : List α}, (∀ x ∈ l, (f x).length ≤ k) → (l.flatMap f).length ≤ l.length * k
  | [], _ => by simp
  | x :: l, h => by
    have := h x (List.mem_cons_self ..)
    have := flat_len (k := k) (l := l) fun y hy => h y (List.mem_cons_of_mem _ hy)
    rw [List.flatMap_cons, List.length_append, List.length_cons, Nat.add_mul]
    omega
theorem flat_snoc {α : Type} {f : α → List UInt8} {l : List α} {i : Nat} (h : i < l.length) : (l.take (i + 1)).flatMap f = (l.take i).flatMap f ++ f l[i] := by
  rw [List.take_succ_eq_append_getElem h, List.flatMap_append]; simp
theorem lineB_len {w : ByteArray} {ns : List Int} (hw : w.size ≤ 10) (hn : ns.length ≤ 4) (h : ∀ n ∈ ns, -9223372036854775808 ≤ n ∧ n ≤ 9223372036854775807) : (lineB w ns).length ≤ 100 := by
  have h1 := numB_len (k := 21) (l := ns) fun x hx => Lib.itoa_length_le x (h x hx).1 (h x hx).2
  have h2 : ns.length * 22 ≤ 4 * 22 := Nat.mul_le_mul_right _ hn
  have h3 : w.data.toList.length = w.size := Array.length_toList
  unfold lineB
  rw [List.length_append, List.length_append, h3]
  simp only [List.length_singleton]
  omega
theorem all3 {p : Int → Prop} {a b c : Int} (h1 : p a) (h2 : p b) (h3 : p c) : ∀ n ∈ [a, b, c], p n := by
  intro n hn; simp only [List.mem_cons, List.not_mem_nil, or_false] at hn; rcases hn with rfl | rfl | rfl <;> assumption
theorem all4 {p : Int → Prop} {a b c d : Int} (h1 : p a) (h2 : p b) (h3 : p c) (h4 : p d) : ∀ n ∈ [a, b, c, d], p n := by
  intro n hn; simp only [List.mem_cons, List.not_mem_nil, or_false] at hn; rcases hn with rfl | rfl | rfl | rfl <;> assumption
set_option maxHeartbeats 4000000 in
theorem Write_ok (ob : Go.Obj) (b : Ben) (hv : ValidB b) : ACalls Tryd.prog 16 [benV b] [(10900, tabO ob)] (fun r o => r = .tup [.val (.string ⟨(wrB b).toArray⟩), I 0] ∧ o = [(10900, tabO ob)]) := by
 have F := Fx.nil
 refine ent Tryd.func16 Tryd.ntmps16 Tryd.results16 ?_
 have hck : checkB b = 0 := checkB_zero.2 hv
 have hm1 : 0 < b.mas.length := hv.m1
 have hm5 : b.mas.length ≤ 5 := hv.m5
 have hw6 : b.wei.length ≤ 6 := hv.w6
 have hs3 : b.scl.length ≤ 3 := hv.s3
 have ht6 : b.tri.length ≤ 6 := hv.t6
 have qM : ∀ m ∈ b.mas, ∀ n ∈ [m.nom, m.off.lo, m.off.hi], -9223372036854775808 ≤ n ∧ n ≤ 9223372036854775807 := fun m hm => by have := hv.mas m hm; exact all3 (by omega) (by omega) (by omega)
 have qW : ∀ w ∈ b.wei, ∀ n ∈ [w.a, w.b, w.dif.lo, w.dif.hi], -9223372036854775808 ≤ n ∧ n ≤ 9223372036854775807 := fun w hw => by have := hv.wei w hw; exact all4 (by omega) (by omega) (by omega) (by omega)
 have qC : ∀ s ∈ b.scl, ∀ n ∈ [s.fst.lo, s.fst.hi, s.dri.lo, s.dri.hi], -9223372036854775808 ≤ n ∧ n ≤ 9223372036854775807 := fun s hs => by have := hv.scl s hs; exact all4 (by omega) (by omega) (by omega) (by omega)
 have qT : ∀ t ∈ b.tri, ∀ n ∈ [t.sc, t.day, t.ms, t.sh], -9223372036854775808 ≤ n ∧ n ≤ 9223372036854775807 := fun t ht => by have := hv.tri t ht; have := hv.days; exact all4 (by omega) (by omega) (by omega) (by omega)
 obtain ⟨F1, qF1⟩ : ∃ F, F = b.mas.flatMap mW := ⟨_, rfl⟩
 obtain ⟨F2, qF2⟩ : ∃ F, F = F1 ++ b.wei.flatMap wW := ⟨_, rfl⟩
 obtain ⟨F3, qF3⟩ : ∃ F, F = F2 ++ b.scl.flatMap cW := ⟨_, rfl⟩
 obtain ⟨F4, qF4⟩ : ∃ F, F = F3 ++ b.tri.flatMap tW := ⟨_, rfl⟩
 obtain ⟨A1, qA1⟩ : ∃ A : Nat → List UInt8, A = fun i => (b.mas.take i).flatMap mW := ⟨_, rfl⟩
 obtain ⟨A2, qA2⟩ : ∃ A : Nat → List UInt8, A = fun i => F1 ++ (b.wei.take i).flatMap wW := ⟨_, rfl⟩
 obtain ⟨A3, qA3⟩ : ∃ A : Nat → List UInt8, A = fun i => F2 ++ (b.scl.take i).flatMap cW := ⟨_, rfl⟩
 obtain ⟨A4, qA4⟩ : ∃ A : Nat → List UInt8, A = fun i => F3 ++ (b.tri.take i).flatMap tW := ⟨_, rfl⟩
 have hA10 : A1 0 = [] := by rw [qA1]; rfl
 have hA20 : A2 0 = F1 := by rw [qA2]; simp
 have hA30 : A3 0 = F2 := by rw [qA3]; simp
 have hA40 : A4 0 = F3 := by rw [qA4]; simp
 have hA1n : A1 b.mas.length = F1 := by rw [qA1, qF1]; show (b.mas.take b.mas.length).flatMap mW = _; rw [List.take_length]
 have hA2n : A2 b.wei.length = F2 := by rw [qA2, qF2]; show F1 ++ (b.wei.take b.wei.length).flatMap wW = _; rw [List.take_length]
 have hA3n : A3 b.scl.length = F3 := by rw [qA3, qF3]; show F2 ++ (b.scl.take b.scl.length).flatMap cW = _; rw [List.take_length]
 have hA4n : A4 b.tri.length = F4 := by rw [qA4, qF4]; show F3 ++ (b.tri.take b.tri.length).flatMap tW = _; rw [List.take_length]
 have ql1 : ∀ i, (A1 i).length ≤ 500 := fun i => by
   rw [qA1]
   have h1 := flat_len (f := mW) (k := 100) (l := b.mas.take i) fun m hm => lineB_len (by decide) (by simp) (qM m (List.mem_of_mem_take hm))
   have h2 : (b.mas.take i).length ≤ 5 := by rw [List.length_take]; omega
   show ((b.mas.take i).flatMap mW).length ≤ _
   omega
 have qlF1 : F1.length ≤ 500 := by rw [← hA1n]; exact ql1 _
 have ql2 : ∀ i, (A2 i).length ≤ 1100 := fun i => by
   rw [qA2]
   have h1 := flat_len (f := wW) (k := 100) (l := b.wei.take i) fun m hm => lineB_len (by decide) (by simp) (qW m (List.mem_of_mem_take hm))
   have h2 : (b.wei.take i).length ≤ 6 := by rw [List.length_take]; omega
   show (F1 ++ (b.wei.take i).flatMap wW).length ≤ _
   rw [List.length_append]
   omega
 have qlF2 : F2.length ≤ 1100 := by rw [← hA2n]; exact ql2 _
 have ql3 : ∀ i, (A3 i).length ≤ 1400 := fun i => by
   rw [qA3]
   have h1 := flat_len (f := cW) (k := 100) (l := b.scl.take i) fun m hm => lineB_len (by decide) (by simp) (qC m (List.mem_of_mem_take hm))
   have h2 : (b.scl.take i).length ≤ 3 := by rw [List.length_take]; omega
   show (F2 ++ (b.scl.take i).flatMap cW).length ≤ _
   rw [List.length_append]
   omega
 have qlF3 : F3.length ≤ 1400 := by rw [← hA3n]; exact ql3 _
 have ql4 : ∀ i, (A4 i).length ≤ 2000 := fun i => by
   rw [qA4]
   have h1 := flat_len (f := tW) (k := 100) (l := b.tri.take i) fun m hm => lineB_len (by decide) (by simp) (qT m (List.mem_of_mem_take hm))
   have h2 : (b.tri.take i).length ≤ 6 := by rw [List.length_take]; omega
   show (F3 ++ (b.tri.take i).flatMap tW).length ≤ _
   rw [List.length_append]
   omega
 have qlF4 : F4.length ≤ 2000 := by rw [← hA4n]; exact ql4 _
 replace F := F.add hck |>.add hm1 |>.add hm5 |>.add hw6 |>.add hs3 |>.add ht6 |>.add hA10 |>.add hA20 |>.add hA30 |>.add hA40 |>.add hA1n |>.add hA2n |>.add hA3n |>.add hA4n
 refine rK [1] ?_
 refine W.seqk fun K1 hK1 => ?_
 refine W.seqR ?_
 refine oN 1 ?_
 refine oC [] ?_
 refine ct (Check_ok b hv.lens) ?_
 refine oN 1 ?_
 refine oK [1, 4] ?_
 refine rK [1, 4, 18] ?_
 refine cF ?_
 refine W.skip ?_
 refine hK1 _ ?_
 clear hK1 K1
 refine W.seqR ?_
 refine WOps.allocB hΓ 40 9001 rfl rfl rfl rfl rfl (by rfl) (by simp [hck, hm1, hm5, hw6, hs3, ht6, hA10, hA20, hA30, hA40, hA1n, hA2n, hA3n, hA4n]; all_goals rfl) ?_
 refine oK [1, 5] ?_
 refine rK [1, 5, 6] ?_
 refine W.seqk fun K2 hK2 => ?_
 refine rK [1, 5, 6, 22, 23, 24] ?_
 refine W.block ?_
 refine lpa (α := Value × Nat) [1, 5, 6, 22, 23] [8, 37, 38] [40, 9001] (fun x => [(24, I x.2)]) (fun x => [(40, .cus (boxC 118 (decide (0 < x.2)) x.1)), (9001, .cus (bufC 5 x.1 (A1 x.2)))]) (fun x => x.2 ≤ b.mas.length) (fun x => b.mas.length - x.2) (.slice none 0 0, 0) v0 ?_
 ·
  intro ⟨y, i⟩ hI0
  simp only [List.cons_append, List.nil_append]
  try dsimp only at hI0
  replace F := F.add hI0
  refine rK [1, 5, 6, 22, 23, 24, 25] ?_
  refine W.seqk fun K3 hK3 => ?_
  refine it (fun hc2 => ?_) (fun hc2 => ?_)
  ·
   try simp at hc2
   replace F := F.add hc2
   refine W.skip ?_
   refine hK3 _ ?_
   clear hK3 K3
   refine W.seqk fun K4 hK4 => ?_
   refine W.block ?_
   have hil : i < b.mas.length := by omega
   obtain ⟨n1, n2, n3, qx⟩ : ∃ n1 n2 n3, b.mas[i] = ⟨n1, ⟨n2, n3⟩⟩ := ⟨_, _, _, rfl⟩
   have hx := qx
   have qn := qM _ (List.getElem_mem hil)
   rw [qx] at qn
   have ql := ql1 i
   have hAs : A1 (i + 1) = A1 i ++ lineB massW [n1, n2, n3] := by
     rw [qA1]
     show (b.mas.take (i + 1)).flatMap mW = (b.mas.take i).flatMap mW ++ _
     rw [flat_snoc hil, qx]; rfl
   replace F := F.add hil |>.add hx |>.add hAs
   refine rK [1, 5, 6, 8, 22, 23, 24] ?_
   refine W.region ?_
   refine oN 10 ?_
   refine WOps.callM rfl rfl rfl rfl [(10000, 40), (15000, 9001), (10900, 10900)] rfl [9001] rfl (by decide) (by simp [hck, hm1, hm5, hw6, hs3, ht6, hA10, hA20, hA30, hA40, hA1n, hA2n, hA3n, hA4n, hI0, hc2, hil, hx, hAs]; first | rfl | exact ⟨rfl, rfl⟩) (by simp [hck, hm1, hm5, hw6, hs3, ht6, hA10, hA20, hA30, hA40, hA1n, hA2n, hA3n, hA4n, hI0, hc2, hil, hx, hAs]; rfl) ?_
   refine CallT.mkE (row_ok ob (decide (0 < i)) y (A1 i) massW [n1, n2, n3] (by decide) (by omega) (by simp) qn) (fun z38 hz38 => ⟨(by simp [hck, hm1, hm5, hw6, hs3, ht6, hA10, hA20, hA30, hA40, hA1n, hA2n, hA3n, hA4n, hI0, hc2, hil, hx, hAs]), ?_⟩)
   refine ⟨(by simp [hck, hm1, hm5, hw6, hs3, ht6, hA10, hA20, hA30, hA40, hA1n, hA2n, hA3n, hA4n, hI0, hc2, hil, hx, hAs]), ?_⟩
   refine WOps.norm (by simp [hck, hm1, hm5, hw6, hs3, ht6, hA10, hA20, hA30, hA40, hA1n, hA2n, hA3n, hA4n, hI0, hc2, hil, hx, hAs]; rfl) ?_
   refine WOps.endK ?_
   refine hK4 _ ?_
   clear hK4 K4
   refine rEw ?_
   refine ⟨(z38, i + 1), lf0, v0, v0⟩
  ·
   try simp at hc2
   replace F := F.add hc2
   refine W.exit ?_
   refine hK2 _ ?_
   clear hK3 K3 hK2 K2
   refine W.seqk fun K5 hK5 => ?_
   have hin : i = b.mas.length := by omega
   replace F := F.add hin
   refine rK [1, 5, 6, 41, 42, 43] ?_
   refine W.block ?_
   refine lpa (α := Value × Nat) [1, 5, 6, 41, 42] [10, 58, 59] [40, 9001] (fun x => [(43, I x.2)]) (fun x => [(40, .cus (boxC 118 true x.1)), (9001, .cus (bufC 5 x.1 (A2 x.2)))]) (fun x => x.2 ≤ b.wei.length) (fun x => b.wei.length - x.2) (y, 0) v0 ?_
   ·
    intro ⟨y2, j⟩ hI1
    simp only [List.cons_append, List.nil_append]
    try dsimp only at hI1
    replace F := F.add hI1
    refine rK [1, 5, 6, 41, 42, 43, 44] ?_
    refine W.seqk fun K6 hK6 => ?_
    refine it (fun hc3 => ?_) (fun hc3 => ?_)
    ·
     try simp at hc3
     replace F := F.add hc3
     refine W.skip ?_
     refine hK6 _ ?_
     clear hK6 K6
     refine W.seqk fun K7 hK7 => ?_
     refine W.block ?_
     have hjl : j < b.wei.length := by omega
     obtain ⟨n1, n2, n3, n4, qx⟩ : ∃ n1 n2 n3 n4, b.wei[j] = ⟨n1, n2, ⟨n3, n4⟩⟩ := ⟨_, _, _, _, rfl⟩
     have hx := qx
     have qn := qW _ (List.getElem_mem hjl)
     rw [qx] at qn
     have ql := ql2 j
     have hAs : A2 (j + 1) = A2 j ++ lineB weigW [n1, n2, n3, n4] := by
       rw [qA2]
       show F1 ++ (b.wei.take (j + 1)).flatMap wW = F1 ++ (b.wei.take j).flatMap wW ++ _
       rw [flat_snoc hjl, qx, List.append_assoc]; rfl
     replace F := F.add hjl |>.add hx |>.add hAs
     refine rK [1, 5, 6, 10, 41, 42, 43] ?_
     refine W.region ?_
     refine oN 12 ?_
     refine WOps.callM rfl rfl rfl rfl [(10000, 40), (15000, 9001), (10900, 10900)] rfl [9001] rfl (by decide) (by simp [hck, hm1, hm5, hw6, hs3, ht6, hA10, hA20, hA30, hA40, hA1n, hA2n, hA3n, hA4n, hI0, hc2, hin, hI1, hc3, hjl, hx, hAs]; first | rfl | exact ⟨rfl, rfl⟩) (by simp [hck, hm1, hm5, hw6, hs3, ht6, hA10, hA20, hA30, hA40, hA1n, hA2n, hA3n, hA4n, hI0, hc2, hin, hI1, hc3, hjl, hx, hAs]; rfl) ?_
     refine CallT.mkE (row_ok ob true y2 (A2 j) weigW [n1, n2, n3, n4] (by decide) (by omega) (by simp) qn) (fun z59 hz59 => ⟨(by simp [hck, hm1, hm5, hw6, hs3, ht6, hA10, hA20, hA30, hA40, hA1n, hA2n, hA3n, hA4n, hI0, hc2, hin, hI1, hc3, hjl, hx, hAs]), ?_⟩)
     refine ⟨(by simp [hck, hm1, hm5, hw6, hs3, ht6, hA10, hA20, hA30, hA40, hA1n, hA2n, hA3n, hA4n, hI0, hc2, hin, hI1, hc3, hjl, hx, hAs]), ?_⟩
     refine WOps.norm (by simp [hck, hm1, hm5, hw6, hs3, ht6, hA10, hA20, hA30, hA40, hA1n, hA2n, hA3n, hA4n, hI0, hc2, hin, hI1, hc3, hjl, hx, hAs]; rfl) ?_
     refine WOps.endK ?_
     refine hK7 _ ?_
     clear hK7 K7
     refine rEw ?_
     refine ⟨(z59, j + 1), lf0, v0, v0⟩
    ·
     try simp at hc3
     replace F := F.add hc3
     refine W.exit ?_
     refine hK5 _ ?_
     clear hK6 K6 hK5 K5
     refine W.seqk fun K8 hK8 => ?_
     have hjn : j = b.wei.length := by omega
     replace F := F.add hjn
     refine rK [1, 5, 6, 62, 63, 64] ?_
     refine W.block ?_
     refine lpa (α := Value × Nat) [1, 5, 6, 62, 63] [12, 81, 82] [40, 9001] (fun x => [(64, I x.2)]) (fun x => [(40, .cus (boxC 118 true x.1)), (9001, .cus (bufC 5 x.1 (A3 x.2)))]) (fun x => x.2 ≤ b.scl.length) (fun x => b.scl.length - x.2) (y2, 0) v0 ?_
     ·
      intro ⟨y3, k⟩ hI2
      simp only [List.cons_append, List.nil_append]
      try dsimp only at hI2
      replace F := F.add hI2
      refine rK [1, 5, 6, 62, 63, 64, 65] ?_
      refine W.seqk fun K9 hK9 => ?_
      refine it (fun hc4 => ?_) (fun hc4 => ?_)
      ·
       try simp at hc4
       replace F := F.add hc4
       refine W.skip ?_
       refine hK9 _ ?_
       clear hK9 K9
       refine W.seqk fun K10 hK10 => ?_
       refine W.block ?_
       have hkl : k < b.scl.length := by omega
       obtain ⟨n1, n2, n3, n4, qx⟩ : ∃ n1 n2 n3 n4, b.scl[k] = ⟨⟨n1, n2⟩, ⟨n3, n4⟩⟩ := ⟨_, _, _, _, rfl⟩
       have hx := qx
       have qn := qC _ (List.getElem_mem hkl)
       rw [qx] at qn
       have ql := ql3 k
       have hAs : A3 (k + 1) = A3 k ++ lineB scalW [n1, n2, n3, n4] := by
         rw [qA3]
         show F2 ++ (b.scl.take (k + 1)).flatMap cW = F2 ++ (b.scl.take k).flatMap cW ++ _
         rw [flat_snoc hkl, qx, List.append_assoc]; rfl
       replace F := F.add hkl |>.add hx |>.add hAs
       refine rK [1, 5, 6, 12, 62, 63, 64] ?_
       refine W.region ?_
       refine oN 14 ?_
       refine WOps.callM rfl rfl rfl rfl [(10000, 40), (15000, 9001), (10900, 10900)] rfl [9001] rfl (by decide) (by simp [hck, hm1, hm5, hw6, hs3, ht6, hA10, hA20, hA30, hA40, hA1n, hA2n, hA3n, hA4n, hI0, hc2, hin, hI1, hc3, hjn, hI2, hc4, hkl, hx, hAs]; first | rfl | exact ⟨rfl, rfl⟩) (by simp [hck, hm1, hm5, hw6, hs3, ht6, hA10, hA20, hA30, hA40, hA1n, hA2n, hA3n, hA4n, hI0, hc2, hin, hI1, hc3, hjn, hI2, hc4, hkl, hx, hAs]; rfl) ?_
       refine CallT.mkE (row_ok ob true y3 (A3 k) scalW [n1, n2, n3, n4] (by decide) (by omega) (by simp) qn) (fun z82 hz82 => ⟨(by simp [hck, hm1, hm5, hw6, hs3, ht6, hA10, hA20, hA30, hA40, hA1n, hA2n, hA3n, hA4n, hI0, hc2, hin, hI1, hc3, hjn, hI2, hc4, hkl, hx, hAs]), ?_⟩)
       refine ⟨(by simp [hck, hm1, hm5, hw6, hs3, ht6, hA10, hA20, hA30, hA40, hA1n, hA2n, hA3n, hA4n, hI0, hc2, hin, hI1, hc3, hjn, hI2, hc4, hkl, hx, hAs]), ?_⟩
       refine WOps.norm (by simp [hck, hm1, hm5, hw6, hs3, ht6, hA10, hA20, hA30, hA40, hA1n, hA2n, hA3n, hA4n, hI0, hc2, hin, hI1, hc3, hjn, hI2, hc4, hkl, hx, hAs]; rfl) ?_
       refine WOps.endK ?_
       refine hK10 _ ?_
       clear hK10 K10
       refine rEw ?_
       refine ⟨(z82, k + 1), lf0, v0, v0⟩
      ·
       try simp at hc4
       replace F := F.add hc4
       refine W.exit ?_
       refine hK8 _ ?_
       clear hK9 K9 hK8 K8
       refine W.seqk fun K11 hK11 => ?_
       have hkn : k = b.scl.length := by omega
       replace F := F.add hkn
       refine rK [1, 5, 6, 85, 86, 87] ?_
       refine W.block ?_
       refine lpa (α := Value × Nat) [1, 5, 6, 85, 86] [14, 100, 101] [40, 9001] (fun x => [(87, I x.2)]) (fun x => [(40, .cus (boxC 118 true x.1)), (9001, .cus (bufC 5 x.1 (A4 x.2)))]) (fun x => x.2 ≤ b.tri.length) (fun x => b.tri.length - x.2) (y3, 0) v0 ?_
       ·
        intro ⟨y4, l⟩ hI3
        simp only [List.cons_append, List.nil_append]
        try dsimp only at hI3
        replace F := F.add hI3
        refine rK [1, 5, 6, 85, 86, 87, 88] ?_
        refine W.seqk fun K12 hK12 => ?_
        refine it (fun hc5 => ?_) (fun hc5 => ?_)
        ·
         try simp at hc5
         replace F := F.add hc5
         refine W.skip ?_
         refine hK12 _ ?_
         clear hK12 K12
         refine W.seqk fun K13 hK13 => ?_
         refine W.block ?_
         have hll : l < b.tri.length := by omega
         obtain ⟨n1, n2, n3, n4, qx⟩ : ∃ n1 n2 n3 n4, b.tri[l] = ⟨n1, n2, n3, n4⟩ := ⟨_, _, _, _, rfl⟩
         have hx := qx
         have qn := qT _ (List.getElem_mem hll)
         rw [qx] at qn
         have ql := ql4 l
         have hAs : A4 (l + 1) = A4 l ++ lineB triaW [n1, n2, n3, n4] := by
           rw [qA4]
           show F3 ++ (b.tri.take (l + 1)).flatMap tW = F3 ++ (b.tri.take l).flatMap tW ++ _
           rw [flat_snoc hll, qx, List.append_assoc]; rfl
         replace F := F.add hll |>.add hx |>.add hAs
         refine rK [1, 5, 6, 14, 85, 86, 87] ?_
         refine W.region ?_
         refine oN 10 ?_
         refine WOps.callM rfl rfl rfl rfl [(10000, 40), (15000, 9001), (10900, 10900)] rfl [9001] rfl (by decide) (by simp [hck, hm1, hm5, hw6, hs3, ht6, hA10, hA20, hA30, hA40, hA1n, hA2n, hA3n, hA4n, hI0, hc2, hin, hI1, hc3, hjn, hI2, hc4, hkn, hI3, hc5, hll, hx, hAs]; first | rfl | exact ⟨rfl, rfl⟩) (by simp [hck, hm1, hm5, hw6, hs3, ht6, hA10, hA20, hA30, hA40, hA1n, hA2n, hA3n, hA4n, hI0, hc2, hin, hI1, hc3, hjn, hI2, hc4, hkn, hI3, hc5, hll, hx, hAs]; rfl) ?_
         refine CallT.mkE (row_ok ob true y4 (A4 l) triaW [n1, n2, n3, n4] (by decide) (by omega) (by simp) qn) (fun z101 hz101 => ⟨(by simp [hck, hm1, hm5, hw6, hs3, ht6, hA10, hA20, hA30, hA40, hA1n, hA2n, hA3n, hA4n, hI0, hc2, hin, hI1, hc3, hjn, hI2, hc4, hkn, hI3, hc5, hll, hx, hAs]), ?_⟩)
         refine ⟨(by simp [hck, hm1, hm5, hw6, hs3, ht6, hA10, hA20, hA30, hA40, hA1n, hA2n, hA3n, hA4n, hI0, hc2, hin, hI1, hc3, hjn, hI2, hc4, hkn, hI3, hc5, hll, hx, hAs]), ?_⟩
         refine WOps.norm (by simp [hck, hm1, hm5, hw6, hs3, ht6, hA10, hA20, hA30, hA40, hA1n, hA2n, hA3n, hA4n, hI0, hc2, hin, hI1, hc3, hjn, hI2, hc4, hkn, hI3, hc5, hll, hx, hAs]; rfl) ?_
         refine WOps.endK ?_
         refine hK13 _ ?_
         clear hK13 K13
         refine rEw ?_
         refine ⟨(z101, l + 1), lf0, v0, v0⟩
        ·
         try simp at hc5
         replace F := F.add hc5
         refine W.exit ?_
         refine hK11 _ ?_
         clear hK12 K12 hK11 K11
         have hln : l = b.tri.length := by omega
         have qdn : ∀ n ∈ [b.days], -9223372036854775808 ≤ n ∧ n ≤ 9223372036854775807 := fun n hn => by
           have : n = b.days := by simpa using hn
           have := hv.days
           omega
         have qfin : F4 ++ lineB endW [b.days] = wrB b := by rw [qF4, qF3, qF2, qF1]; rfl
         have qne : F4 ++ lineB endW [b.days] ≠ [] := by simp [lineB]
         replace F := F.add hln
         refine W.seqR ?_
         refine oN 4 ?_
         refine WOps.callM rfl rfl rfl rfl [(10000, 40), (15000, 9001), (10900, 10900)] rfl [9001] rfl (by decide) (by simp [hck, hm1, hm5, hw6, hs3, ht6, hA10, hA20, hA30, hA40, hA1n, hA2n, hA3n, hA4n, hI0, hc2, hin, hI1, hc3, hjn, hI2, hc4, hkn, hI3, hc5, hln]; first | rfl | exact ⟨rfl, rfl⟩) (by simp [hck, hm1, hm5, hw6, hs3, ht6, hA10, hA20, hA30, hA40, hA1n, hA2n, hA3n, hA4n, hI0, hc2, hin, hI1, hc3, hjn, hI2, hc4, hkn, hI3, hc5, hln]; rfl) ?_
         refine CallT.mkE (row_ok ob true y4 F4 endW [b.days] (by decide) (by omega) (by simp) qdn) (fun z107 hz107 => ⟨(by simp [hck, hm1, hm5, hw6, hs3, ht6, hA10, hA20, hA30, hA40, hA1n, hA2n, hA3n, hA4n, hI0, hc2, hin, hI1, hc3, hjn, hI2, hc4, hkn, hI3, hc5, hln]), ?_⟩)
         refine ⟨(by simp [hck, hm1, hm5, hw6, hs3, ht6, hA10, hA20, hA30, hA40, hA1n, hA2n, hA3n, hA4n, hI0, hc2, hin, hI1, hc3, hjn, hI2, hc4, hkn, hI3, hc5, hln]), ?_⟩
         refine WOps.norm (by simp [hck, hm1, hm5, hw6, hs3, ht6, hA10, hA20, hA30, hA40, hA1n, hA2n, hA3n, hA4n, hI0, hc2, hin, hI1, hc3, hjn, hI2, hc4, hkn, hI3, hc5, hln]; rfl) ?_
         refine oK [5] ?_
         refine W.seqR ?_
         refine WOps.callM rfl rfl rfl rfl [(10000, 40), (15000, 9001)] rfl [9001] rfl (by decide) (by simp [hck, hm1, hm5, hw6, hs3, ht6, hA10, hA20, hA30, hA40, hA1n, hA2n, hA3n, hA4n, hI0, hc2, hin, hI1, hc3, hjn, hI2, hc4, hkn, hI3, hc5, hln]; first | rfl | exact ⟨rfl, rfl⟩) (by simp [hck, hm1, hm5, hw6, hs3, ht6, hA10, hA20, hA30, hA40, hA1n, hA2n, hA3n, hA4n, hI0, hc2, hin, hI1, hc3, hjn, hI2, hc4, hkn, hI3, hc5, hln]; rfl) ?_
         refine CallT.mk (String_ok true z107 (F4 ++ lineB endW [b.days]) qne) (by simp [hck, hm1, hm5, hw6, hs3, ht6, hA10, hA20, hA30, hA40, hA1n, hA2n, hA3n, hA4n, hI0, hc2, hin, hI1, hc3, hjn, hI2, hc4, hkn, hI3, hc5, hln]) ?_
         refine ⟨(by simp [hck, hm1, hm5, hw6, hs3, ht6, hA10, hA20, hA30, hA40, hA1n, hA2n, hA3n, hA4n, hI0, hc2, hin, hI1, hc3, hjn, hI2, hc4, hkn, hI3, hc5, hln]), ?_⟩
         refine WOps.norm (by simp [hck, hm1, hm5, hw6, hs3, ht6, hA10, hA20, hA30, hA40, hA1n, hA2n, hA3n, hA4n, hI0, hc2, hin, hI1, hc3, hjn, hI2, hc4, hkn, hI3, hc5, hln]; rfl) ?_
         refine oN 2 ?_
         refine oK [2, 3] ?_
         refine W.ret ?_
         exact er0 false [] [(10900, 10900)]
end Go.Sim
