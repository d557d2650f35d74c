/- Values, states and single operations. -/
import Derived.Laws.AppendOwn
import Derived.Below
import Derived.Orders
import Derived.Laws.StructEq
import Derived.Laws.Slices
import Derived.Maps.Keyed
import Derived.DeepKeys4
import Derived.Laws.MakeOwn
import Derived.Laws.CopyRow
import Derived.Deep.LoopGhost
set_option linter.all false
set_option linter.unusedVariables false
set_option linter.unusedSimpArgs false
namespace Go.Sim
open Go.RowKit
inductive AV where
  | dead
  | val (v:Value)
  | imm (l:List AV)
  | own (id off len:Nat)
  | ptr (id i off:Nat)
  | iptr (l:List AV)
  | map (id:Nat)
  | clo (f:FuncId) (cap:List AV)
  | mth (f:FuncId) (fst:List AV)
  | agg (l:List AV)
  | tup (l:List AV)
  | yld (id:Nat)
  | arr (id i off len cap:Nat)
  | sub (id i len:Nat)
  | sptr (id i k off:Nat)
  deriving Inhabited
def AV.cells:AV→List AV
  | .agg l=>l
  | x=>[x]
mutual
def AV.men (id:Nat):AV→Bool
  | .own i _ _=>i == id
  | .ptr i _ _=>i == id
  | .map i=>i == id
  | .yld i=>i == id
  | .arr i _ _ _ _=>i == id
  | .sub i _ _=>i == id
  | .sptr i _ _ _=>i == id
  | .clo _ l=>AV.menL id l
  | .mth _ l=>AV.menL id l
  | .agg l=>AV.menL id l
  | .tup l=>AV.menL id l
  | _=>false
def AV.menL (id:Nat):List AV→Bool
  | []=>false
  | x :: xs=>AV.men id x || AV.menL id xs
end
mutual
def AV.isData:AV→Bool
  | .val _=>true
  | .imm _=>true
  | .agg l=>AV.isDataL l
  | _=>false
def AV.isDataL:List AV→Bool
  | []=>true
  | x :: xs=>AV.isData x && AV.isDataL xs
end
theorem AV.menL_of {id:Nat}:∀ {l:List AV} {x:AV},x∈l→x.men id=true→AV.menL id l=true
  | y :: ys,x,hx,hm=>by
    simp only [AV.menL,Bool.or_eq_true]
    rcases List.mem_cons.1 hx with rfl | h
    · exact .inl hm
    · exact .inr (AV.menL_of h hm)
theorem AV.isDataL_mem:∀ {l:List AV} {x:AV},AV.isDataL l=true→x∈l→x.isData=true
  | y :: ys,x,h,hx=>by
    simp only [AV.isDataL,Bool.and_eq_true] at h
    rcases List.mem_cons.1 hx with rfl | hx
    · exact h.1
    · exact AV.isDataL_mem h.2 hx
mutual
theorem AV.men_of_isData (id:Nat):∀ (x:AV),x.isData=true→x.men id=false
  | .val _,_=>rfl
  | .imm _,_=>rfl
  | .agg l,h=>by simp only [AV.men]; exact AV.menL_of_isDataL id l (by simpa [AV.isData] using h)
theorem AV.menL_of_isDataL (id:Nat):∀ (l:List AV),AV.isDataL l=true→AV.menL id l=false
  | [],_=>rfl
  | x :: xs,h=>by
    simp only [AV.isDataL,Bool.and_eq_true] at h
    simp [AV.menL,AV.men_of_isData id x h.1,AV.menL_of_isDataL id xs h.2]
end
inductive RdD (w:World) (q:Nat→Prop):AV→Value→Prop
  | val (v:Value):RdD w q (.val v) v
  | imm0 (a:Option Addr) (cap:Nat):RdD w q (.imm []) (.slice a 0 cap)
  | imm (l:List AV) (b off cap sz:Nat) (vals:Nat→Nat→Value) (hne:l≠[]) (hz:0 < sz) (hq:q b) (hlen:l.length≤maxLen) (hcap:l.length≤cap)
      (hsz:∀ x∈l,x.cells.length=sz)
      (hc:∀ (i:Nat) (x:AV),l[i]?=some x→∀ (j:Nat) (y:AV),x.cells[j]?=some y→w.cell? ⟨b,off + i * sz + j,none⟩=some (vals i j)∧(vals i j).oneCell'=true)
      (hr:∀ (i:Nat) (x:AV),l[i]?=some x→∀ (j:Nat) (y:AV),x.cells[j]?=some y→RdD w q y (vals i j)):RdD w q (.imm l) (.slice (some ⟨b,off,none⟩) l.length cap)
  | agg (l:List AV) (vs:Array Value) (hs:vs.size=l.length) (hr:∀ (i:Nat) (x:AV) (v:Value),l[i]?=some x→vs[i]?=some v→RdD w q x v):RdD w q (.agg l) (.agg vs)
mutual
def AV.free:AV→Bool
  | .val _=>true
  | .agg l=>AV.freeL l
  | .own ..=>true
  | .tup l=>AV.freeL l
  | _=>false
def AV.freeL:List AV→Bool
  | []=>true
  | x :: xs=>AV.free x && AV.freeL xs
end
theorem AV.freeL_mem:∀ {l:List AV} {x:AV},AV.freeL l=true→x∈l→x.free=true
  | y :: ys,x,h,hx=>by
    simp only [AV.freeL,Bool.and_eq_true] at h
    rcases List.mem_cons.1 hx with rfl | hx
    · exact h.1
    · exact AV.freeL_mem h.2 hx
theorem RdD.free {w w' : World} {q q' : Nat→Prop} {x:AV} {v:Value} (h:RdD w q x v):x.free=true→RdD w' q' x v:=by
  induction h with
  | val v=>exact fun _=>.val v
  | imm0=>exact fun h=>by simp [AV.free] at h
  | imm=>exact fun h=>by simp [AV.free] at h
  | agg l vs hs hr ih=>exact fun h=>.agg l vs hs fun i x v hx hv=>ih i x v hx hv (AV.freeL_mem (by simpa [AV.free] using h) (List.mem_of_getElem? hx))
structure Mta where
  blk:Option Nat
  cap:Nat
  sz:Nat
  more:Nat→Prop:=fun _=>False
  row:Nat×(Nat→Nat):=(0,fun _=>0)
def Mta.has (m:Mta) (b:Nat):Prop:=m.blk=some b∨m.more b
abbrev mt (blk:Option Nat) (cap sz:Nat):Mta:={ blk,cap,sz }
theorem Mta.has_mk {blk:Option Nat} {cap sz b:Nat}:(mt blk cap sz).has b↔blk=some b:=by simp [Mta.has]
def Mta.gone (m:Mta):Prop:=m.blk=none∧m.cap=1
structure Env where
  get:Nat→Option Mta
  pr:Nat→Prop
  bs:Nat
def Env.owned (e:Env) (b:Nat):Prop:=∃ id m,e.get id=some m∧m.has b
def Env.q (e:Env) (b:Nat):Prop:=e.pr b∧¬ e.owned b
inductive Rd (w:World) (e:Env):AV→Value→Prop
  | dead (v:Value):Rd w e .dead v
  | data {x:AV} {v:Value} (h:RdD w e.q x v):Rd w e x v
  | own0 (id:Nat) (m:Mta) (hm:e.get id=some m) (hb:m.blk=none) (a:Option Addr):Rd w e (.own id 0 0) (.slice a 0 0)
  | own (id off len:Nat) (m:Mta) (b:Nat) (hm:e.get id=some m) (hb:m.blk=some b) (hc:off + len≤m.cap):Rd w e (.own id off len) (.slice (some ⟨b,off * m.sz,none⟩) len (m.cap - off))
  | ownX (id off len:Nat) (m:Mta) (hm:e.get id=some m) (hg:m.gone) (a:Option Addr) (cap:Nat) (ha:len≠0→a.isSome=true) (hc:len≤cap):Rd w e (.own id off len) (.slice a len cap)
  | ptr (id i off:Nat) (m:Mta) (b:Nat) (hm:e.get id=some m) (hb:m.blk=some b):Rd w e (.ptr id i off) (.pointer (some ⟨b,i * m.sz + off,none⟩))
  | ptrX (id i off:Nat) (m:Mta) (hm:e.get id=some m) (hg:m.gone) (a:Addr):Rd w e (.ptr id i off) (.pointer (some a))
  | iptr (l:List AV) (b off:Nat) (vals:Nat→Value) (hne:l≠[]) (hq:e.q b) (hc:∀ (j:Nat) (y:AV),l[j]?=some y→w.cell? ⟨b,off + j,none⟩=some (vals j))
      (hr:∀ (j:Nat) (y:AV),l[j]?=some y→RdD w e.q y (vals j)):Rd w e (.iptr l) (.pointer (some ⟨b,off,none⟩))
  | map (id:Nat) (m:Mta) (b:Nat) (hm:e.get id=some m) (hb:m.blk=some b):Rd w e (.map id) (.map (some b))
  | yld (id:Nat) (m:Mta) (b:Nat) (hm:e.get id=some m) (hb:m.blk=some b):Rd w e (.yld id) (.func (.yield b) #[] #[])
  | mapX (id:Nat) (m:Mta) (hm:e.get id=some m) (hg:m.gone) (b:Nat):Rd w e (.map id) (.map (some b))
  | yldX (id:Nat) (m:Mta) (hm:e.get id=some m) (hg:m.gone) (b:Nat):Rd w e (.yld id) (.func (.yield b) #[] #[])
  | arr (id i off len cap:Nat) (m:Mta) (b:Nat) (hm:e.get id=some m) (hb:m.blk=some b):Rd w e (.arr id i off len cap) (.slice (some ⟨b,i * m.sz + off,none⟩) len cap)
  | arrX (id i off len cap:Nat) (m:Mta) (hm:e.get id=some m) (hg:m.gone) (a:Addr):Rd w e (.arr id i off len cap) (.slice (some a) len cap)
  | sub (id i len cap:Nat) (m:Mta) (hm:e.get id=some m):Rd w e (.sub id i len) (.slice (some ⟨m.row.2 i,0,none⟩) len cap)
  | subX (id i len cap:Nat) (m:Mta) (hm:e.get id=some m) (hg:m.gone) (a:Addr):Rd w e (.sub id i len) (.slice (some a) len cap)
  | sptr (id i k off:Nat) (m:Mta) (hm:e.get id=some m):Rd w e (.sptr id i k off) (.pointer (some ⟨m.row.2 i,k * m.row.1 + off,none⟩))
  | sptrX (id i k off:Nat) (m:Mta) (hm:e.get id=some m) (hg:m.gone) (a:Addr):Rd w e (.sptr id i k off) (.pointer (some a))
  | clo (f:FuncId) (l:List AV) (vs:Array Value) (hs:vs.size=l.length) (hr:∀ (i:Nat) (x:AV) (v:Value),l[i]?=some x→vs[i]?=some v→Rd w e x v):Rd w e (.clo f l) (.func (.func f) #[] vs)
  | mth (f:FuncId) (l:List AV) (vs:Array Value) (hs:vs.size=l.length) (hr:∀ (i:Nat) (x:AV) (v:Value),l[i]?=some x→vs[i]?=some v→Rd w e x v):Rd w e (.mth f l) (.func (.func f) vs #[])
  | agg (l:List AV) (vs:Array Value) (hs:vs.size=l.length) (hr:∀ (i:Nat) (x:AV) (v:Value),l[i]?=some x→vs[i]?=some v→Rd w e x v):Rd w e (.agg l) (.agg vs)
  | tup (l:List AV) (vs:Array Value) (hs:vs.size=l.length) (hr:∀ (i:Nat) (x:AV) (v:Value),l[i]?=some x→vs[i]?=some v→Rd w e x v):Rd w e (.tup l) (.tuple vs)
def CellIn (w:World) (b:Nat):Prop:=∃ o v,w.cell? ⟨b,o,none⟩=some v
theorem CellIn.lt {w:World} {b:Nat} (h:CellIn w b):b < w.heap.size:=let ⟨_,_,h⟩:=h; World.block_lt_of_cell? _ _ h
theorem RdD.evolve' {w w' : World} {q q' : Nat→Prop} (hq:∀ b,q b→CellIn w b→w'.heap[b]?=w.heap[b]?∧q' b) {x:AV} {v:Value} (h:RdD w q x v):RdD w' q' x v:=by
  induction h with
  | val v=>exact .val v
  | imm0 a cap=>exact .imm0 a cap
  | imm l b off cap sz vals hne hz hqb hlen hcap hsz hc hr ih =>
    obtain ⟨x0,xs,rfl⟩:=List.exists_cons_of_ne_nil hne
    obtain ⟨y0,ys,hy0⟩:∃ y0 ys,x0.cells=y0 :: ys:=List.exists_cons_of_ne_nil (fun e=>by have:=hsz x0 (by simp); rw [e] at this; simp at this; omega)
    have hb:CellIn w b:=⟨_,_,(hc 0 x0 (by simp) 0 y0 (by simp [hy0])).1⟩
    obtain ⟨hh,hq'⟩:=hq b hqb hb
    refine .imm _ b off cap sz vals hne hz hq' hlen hcap hsz (fun i x hx j y hy=>?_) (fun i x hx j y hy=>ih i x hx j y hy)
    obtain ⟨h1,h2⟩:=hc i x hx j y hy
    exact ⟨by rw [← h1]; exact World.cell?_of_block hh,h2⟩
  | agg l vs hs hr ih=>exact .agg l vs hs ih
theorem RdD.evolve {w w' : World} {q q' : Nat→Prop} (hq:∀ b,q b→b < w.heap.size→w'.heap[b]?=w.heap[b]?∧q' b) {x:AV} {v:Value} (h:RdD w q x v):RdD w' q' x v:=h.evolve' fun b h1 h2=>hq b h1 h2.lt
theorem Rd.evolve' {w w' : World} {e e' : Env} (hq:∀ b,e.q b→CellIn w b→w'.heap[b]?=w.heap[b]?∧e'.q b) {x:AV} {v:Value} (h:Rd w e x v) :
    (∀ id,x.men id=true→e'.get id=e.get id)→Rd w' e' x v:=by
  induction h with
  | dead v=>exact fun _=>.dead v
  | data h=>exact fun _=>.data (h.evolve' hq)
  | own0 id m hm hb a=>exact fun hg=>.own0 id m (by rw [hg id (by simp [AV.men])]; exact hm) hb a
  | own id off len m b hm hb hc=>exact fun hg=>.own id off len m b (by rw [hg id (by simp [AV.men])]; exact hm) hb hc
  | ownX id off len m hm hgo a cap ha hc=>exact fun hg=>.ownX id off len m (by rw [hg id (by simp [AV.men])]; exact hm) hgo a cap ha hc
  | ptr id i off m b hm hb=>exact fun hg=>.ptr id i off m b (by rw [hg id (by simp [AV.men])]; exact hm) hb
  | ptrX id i off m hm hgo a=>exact fun hg=>.ptrX id i off m (by rw [hg id (by simp [AV.men])]; exact hm) hgo a
  | iptr l b off vals hne hqb hc hr =>
    intro _
    obtain ⟨y0,ys,rfl⟩:=List.exists_cons_of_ne_nil hne
    have hb:CellIn w b:=⟨_,_,hc 0 y0 (by simp)⟩
    obtain ⟨hh,hq'⟩:=hq b hqb hb
    exact .iptr _ b off vals hne hq' (fun j y hy=>by rw [← hc j y hy]; exact World.cell?_of_block hh) (fun j y hy=>(hr j y hy).evolve' hq)
  | map id m b hm hb=>exact fun hg=>.map id m b (by rw [hg id (by simp [AV.men])]; exact hm) hb
  | yld id m b hm hb=>exact fun hg=>.yld id m b (by rw [hg id (by simp [AV.men])]; exact hm) hb
  | mapX id m hm hgo b=>exact fun hg=>.mapX id m (by rw [hg id (by simp [AV.men])]; exact hm) hgo b
  | yldX id m hm hgo b=>exact fun hg=>.yldX id m (by rw [hg id (by simp [AV.men])]; exact hm) hgo b
  | arr id i off len cap m b hm hb=>exact fun hg=>.arr id i off len cap m b (by rw [hg id (by simp [AV.men])]; exact hm) hb
  | arrX id i off len cap m hm hgo a=>exact fun hg=>.arrX id i off len cap m (by rw [hg id (by simp [AV.men])]; exact hm) hgo a
  | sub id i len cap m hm=>exact fun hg=>.sub id i len cap m (by rw [hg id (by simp [AV.men])]; exact hm)
  | subX id i len cap m hm hgo a=>exact fun hg=>.subX id i len cap m (by rw [hg id (by simp [AV.men])]; exact hm) hgo a
  | sptr id i k off m hm=>exact fun hg=>.sptr id i k off m (by rw [hg id (by simp [AV.men])]; exact hm)
  | sptrX id i k off m hm hgo a=>exact fun hg=>.sptrX id i k off m (by rw [hg id (by simp [AV.men])]; exact hm) hgo a
  | clo f l vs hs hr ih=>exact fun hg=>.clo f l vs hs fun i x v hx hv=>ih i x v hx hv fun id hid=>hg id (by simp only [AV.men]; exact AV.menL_of (List.mem_of_getElem? hx) hid)
  | mth f l vs hs hr ih=>exact fun hg=>.mth f l vs hs fun i x v hx hv=>ih i x v hx hv fun id hid=>hg id (by simp only [AV.men]; exact AV.menL_of (List.mem_of_getElem? hx) hid)
  | agg l vs hs hr ih=>exact fun hg=>.agg l vs hs fun i x v hx hv=>ih i x v hx hv fun id hid=>hg id (by simp only [AV.men]; exact AV.menL_of (List.mem_of_getElem? hx) hid)
  | tup l vs hs hr ih=>exact fun hg=>.tup l vs hs fun i x v hx hv=>ih i x v hx hv fun id hid=>hg id (by simp only [AV.men]; exact AV.menL_of (List.mem_of_getElem? hx) hid)
theorem Rd.evolve {w w' : World} {e e' : Env} (hq:∀ b,e.q b→b < w.heap.size→w'.heap[b]?=w.heap[b]?∧e'.q b) {x:AV} {v:Value} (h:Rd w e x v) :
    (∀ id,x.men id=true→e'.get id=e.get id)→Rd w' e' x v:=h.evolve' fun b h1 h2=>hq b h1 h2.lt
theorem Rd.agg_inv {w:World} {e:Env} {l:List AV} {v:Value} (h:Rd w e (.agg l) v):∃ vs:Array Value,v = .agg vs∧vs.size=l.length∧∀ (i:Nat) (x:AV) (u:Value),l[i]?=some x→vs[i]?=some u→Rd w e x u:=by
  cases h with
  | data h=>cases h with | agg _ vs hs hr=>exact ⟨vs,rfl,hs,fun i x u hx hu=>.data (hr i x u hx hu)⟩
  | agg _ vs hs hr=>exact ⟨vs,rfl,hs,hr⟩
theorem Rd.tup_inv {w:World} {e:Env} {l:List AV} {v:Value} (h:Rd w e (.tup l) v):∃ vs:Array Value,v = .tuple vs∧vs.size=l.length∧∀ (i:Nat) (x:AV) (u:Value),l[i]?=some x→vs[i]?=some u→Rd w e x u:=by
  cases h with
  | data h=>cases h
  | tup _ vs hs hr=>exact ⟨vs,rfl,hs,hr⟩
theorem Rd.clo_inv {w:World} {e:Env} {f:FuncId} {l:List AV} {v:Value} (h:Rd w e (.clo f l) v):∃ vs:Array Value,v = .func (.func f) #[] vs∧vs.size=l.length∧∀ (i:Nat) (x:AV) (u:Value),l[i]?=some x→vs[i]?=some u→Rd w e x u:=by
  cases h with
  | data h=>cases h
  | clo _ _ vs hs hr=>exact ⟨vs,rfl,hs,hr⟩
theorem Rd.mth_inv {w:World} {e:Env} {f:FuncId} {l:List AV} {v:Value} (h:Rd w e (.mth f l) v):∃ vs:Array Value,v = .func (.func f) vs #[]∧vs.size=l.length∧∀ (i:Nat) (x:AV) (u:Value),l[i]?=some x→vs[i]?=some u→Rd w e x u:=by
  cases h with
  | data h=>cases h
  | mth _ _ vs hs hr=>exact ⟨vs,rfl,hs,hr⟩
theorem Rd.val_inv {w:World} {e:Env} {u v:Value} (h:Rd w e (.val u) v):v=u:=by
  cases h with | data h=>cases h; rfl
theorem RdD.val_inv {w:World} {q:Nat→Prop} {u v:Value} (h:RdD w q (.val u) v):v=u:=by cases h; rfl
theorem Rd.toData {w:World} {e:Env} {x:AV} {v:Value} (h:Rd w e x v):x.isData=true→RdD w e.q x v:=by
  induction h with
  | data h=>exact fun _=>h
  | agg l vs hs hr ih=>exact fun hd=>.agg l vs hs fun i x v hx hv=>ih i x v hx hv (AV.isDataL_mem (by simpa [AV.isData] using hd) (List.mem_of_getElem? hx))
  | _=>exact fun hd=>by simp [AV.isData] at hd
structure Fgn where
  F:Nat→Prop
  J:World→(Nat→Prop)→Prop
structure Cus where
  J:World→Mta→(Nat→Prop)→Prop
  fr:Bool:=false
  tab:List (Nat×List Value):=[]
  tabOk:∀ g vs,(g,vs)∈tab→∀ w m q,J w m q→q g∧vs≠[]∧∀ (j:Nat) (v:Value),vs[j]?=some v→w.cell? ⟨g,j,none⟩=some v
inductive Obj where
  | row (d:Bool) (ty:TypeId) (sz:Nat) (els:List AV)
  | mp (d:Bool) (sh:Value) (ents:List (Value×AV))
  | ext (l:Nat) (J:Fgn)
  | gone
  | fix (ty:TypeId) (sz cap:Nat) (els:List AV)
  | grid (ty:TypeId) (sz:Nat) (oty:TypeId) (n:Nat) (rows:List (List AV))
  | cus (C:Cus)
  deriving Inhabited
def look {α:Type} (t:Nat):List (Nat×α)→Option α
  | []=>none
  | (k,x) :: r=>if k=t then some x else look t r
theorem look_mem {α:Type} {t:Nat}:∀ {l:List (Nat×α)} {x:α},look t l=some x→(t,x)∈l
  | (k,y) :: r,x,h=>by
    simp only [look] at h
    split at h
    · rename_i hk; subst hk; cases h; simp
    · exact List.mem_cons_of_mem _ (look_mem h)
def CellRd (d:Bool) (w:World) (e:Env) (y:AV) (v:Value):Prop:=if d then RdD w e.q y v else Rd w e y v
theorem CellRd.rd {d:Bool} {w:World} {e:Env} {y:AV} {v:Value} (h:CellRd d w e y v):Rd w e y v:=by
  cases d with
  | true=>exact .data (by simpa [CellRd] using h)
  | false=>simpa [CellRd] using h
structure RowOk (w:World) (e:Env) (m:Mta) (d:Bool) (ty:TypeId) (sz:Nat) (els:List AV):Prop where
  hsz:m.sz=sz
  len:els.length≤m.cap
  cap:m.cap≤maxLen
  cells:∀ x∈els,x.cells.length=sz
  only:∀ b,¬ m.more b
  blk : match m.blk with
    | none=>m.cap=0
    | some b=>∃ cur:Array Value,w.heap[b]?=some (.cells cur ty (0,0))∧cur.size=m.cap * sz ∧
        ∀ (i:Nat) (x:AV),els[i]?=some x→∀ (j:Nat) (y:AV),x.cells[j]?=some y→∃ v,cur[i * sz + j]?=some v∧v.oneCell'=true∧CellRd d w e y v
theorem RowOk.keepT {w w' : World} {e e' : Env} {m:Mta} {ty:TypeId} {sz:Nat} {els:List AV} (h:RowOk w e m true ty sz els) (hb:∀ b,m.has b→w'.heap[b]?=w.heap[b]?)
    (hq:∀ y v,RdD w e.q y v→RdD w' e'.q y v):RowOk w' e' m true ty sz els:=by
  refine ⟨h.hsz,h.len,h.cap,h.cells,h.only, ?_⟩
  have hk:=h.blk
  cases hmb:m.blk with
  | none=>simpa [hmb] using hk
  | some b =>
    simp only [hmb] at hk ⊢
    obtain ⟨cur,h1,h2,h3⟩:=hk
    refine ⟨cur,by rw [hb b (.inl hmb)]; exact h1,h2,fun i x hx j y hy=>?_⟩
    obtain ⟨v,g1,g2,g3⟩:=h3 i x hx j y hy
    refine ⟨v,g1,g2, ?_⟩
    simp only [CellRd,if_true] at g3 ⊢; exact hq _ _ g3
theorem RowOk.ngone {w:World} {e:Env} {m:Mta} {d:Bool} {ty:TypeId} {sz:Nat} {els:List AV} (h:RowOk w e m d ty sz els):¬ m.gone:=fun hg=>by
  have hk:=h.blk
  rw [hg.1] at hk
  have:=hg.2
  simp only at hk; omega
theorem RowOk.at {w:World} {e:Env} {m m' : Mta} {d:Bool} {ty:TypeId} {sz:Nat} {els:List AV} (h:RowOk w e m' d ty sz els) (h1:m.blk=m'.blk) (h2:m.cap=m'.cap) (h3:m.sz=m'.sz) (h4:∀ b,¬ m.more b):RowOk w e m d ty sz els:=by
  refine ⟨h3.trans h.hsz,by rw [h2]; exact h.len,by rw [h2]; exact h.cap,h.cells,h4, ?_⟩
  have hk:=h.blk
  rw [h1,h2]; exact hk
def wfI64:Value→Bool
  | .int .i64 a=>(Lit.int .i64 a).wf
  | _=>false
def fitsKey:Value→Value→Bool
  | .int q _,.int q' a=>q' == q && (Lit.int q a).wf
  | .string _,.string s=>decide (s.size≤maxLen)
  | .agg zs,.agg xs=>zs.size == xs.size && xs.toList.all wfI64
  | _,_=>false
structure MapOk (w:World) (e:Env) (m:Mta) (d:Bool) (sh:Value) (ents:List (Value×AV)):Prop where
  only:∀ b,¬ m.more b
  good:(∀ x∈ents,fitsKey sh x.1=true)∧(ents.map (·.1)).Nodup
  blk:∃ b es clock,m.blk=some b∧w.heap[b]?=some (.map es clock)∧es.size=ents.length∧es.size≤maxLen ∧
    ∀ (i:Nat) (k:Value) (x:AV),ents[i]?=some (k,x)→∃ en,es[i]?=some en∧en.key=k∧CellRd d w e x en.val
theorem MapOk.ngone {w:World} {e:Env} {m:Mta} {d:Bool} {sh:Value} {ents:List (Value×AV)} (h:MapOk w e m d sh ents):¬ m.gone:=fun hg=>by
  obtain ⟨b,_,_,h1,_⟩:=h.blk
  rw [hg.1] at h1; cases h1
def Stab (J:Fgn):Prop:=∀ (w w' : World) (S:Nat→Prop),J.J w S→(∀ b,S b∨J.F b→b < w.heap.size→w'.heap[b]?=w.heap[b]?)→w'.os=w.os→w'.tape=w.tape→w'.output=w.output→w.heap.size≤w'.heap.size→J.J w' S
structure ExtOk (w:World) (e:Env) (m:Mta) (l:Nat) (J:Fgn):Prop where
  blk:m.blk=some l
  lt:∀ b,m.has b→b < w.heap.size
  holds:J.J w m.has
  fz:∀ b,J.F b→CellIn w b∧e.q b
  stable:Stab J
theorem CellIn.of_same {w w' : World} {b:Nat} (h:CellIn w b) (hb:w'.heap[b]?=w.heap[b]?):CellIn w' b:=by
  obtain ⟨o,v,hv⟩:=h
  exact ⟨o,v,by rw [← hv]; exact World.cell?_of_block hb⟩
theorem ExtOk.go {w w' : World} {e e' : Env} {m:Mta} {l:Nat} {J:Fgn} (h:ExtOk w e m l J) (hsz:w.heap.size≤w'.heap.size) (hos:w'.os=w.os∧w'.tape=w.tape∧w'.output=w.output)
    (hb:∀ b,m.has b→w'.heap[b]?=w.heap[b]?) (hq:∀ b,e.q b→CellIn w b→w'.heap[b]?=w.heap[b]?∧e'.q b):ExtOk w' e' m l J:=
  ⟨h.blk,fun b hb'=>Nat.lt_of_lt_of_le (h.lt b hb') hsz,h.stable _ _ _ h.holds (fun b hb' _=>hb'.elim (hb b) (fun hF=>(hq b (h.fz b hF).2 (h.fz b hF).1).1)) hos.1 hos.2.1 hos.2.2 hsz,
    fun b hF=>⟨(h.fz b hF).1.of_same (hq b (h.fz b hF).2 (h.fz b hF).1).1,(hq b (h.fz b hF).2 (h.fz b hF).1).2⟩,h.stable⟩
def CStab (C:Cus):Prop:=∀ (w w' : World) (m m' : Mta) (q q' : Nat→Prop),C.J w m q→m'.blk=m.blk→m'.cap=m.cap→m'.sz=m.sz→m'.row=m.row→m'.more=m.more→(∀ b,m.has b→w'.heap[b]?=w.heap[b]?)→((∀ b,q b→CellIn w b→w'.heap[b]?=w.heap[b]?∧q' b)∨C.fr=true)→C.J w' m' q'
structure CusOk (w:World) (e:Env) (m:Mta) (C:Cus):Prop where
  holds:C.J w m e.q
  ngone:¬ m.gone
  lt:∀ b,m.has b→b < w.heap.size
  stable:CStab C
theorem CusOk.go {w w' : World} {e e' : Env} {m:Mta} {C:Cus} (h:CusOk w e m C) (hsz:w.heap.size≤w'.heap.size)
    (hb:∀ b,m.has b→w'.heap[b]?=w.heap[b]?) (hq:∀ b,e.q b→CellIn w b→w'.heap[b]?=w.heap[b]?∧e'.q b):CusOk w' e' m C:=
  ⟨h.stable _ _ _ _ _ _ h.holds rfl rfl rfl rfl rfl hb (.inl hq),h.ngone,fun b hb'=>Nat.lt_of_lt_of_le (h.lt b hb') hsz,h.stable⟩
structure GridJ (ty:TypeId) (sz:Nat) (oty:TypeId) (n:Nat) (rows:List (List AV)) (w:World) (m:Mta) (q:Nat→Prop):Prop where
  hsz:m.sz=1
  rsz:m.row.1=sz
  pos:0 < sz
  len:rows.length≤n
  room:n≤m.cap
  cap:m.cap≤maxLen
  good:∀ r∈rows,r≠[]∧r.length≤maxLen∧∀ x∈r,x.cells.length=sz
  blk : match m.blk with
    | none=>m.cap=0
    | some b=>∃ cur:Array Value,w.heap[b]?=some (.cells cur oty (0,0))∧cur.size=m.cap∧(∀ i,i < rows.length→m.row.2 i≠b) ∧
        ∀ (i:Nat) (r:List AV),rows[i]?=some r→∃ cp,r.length≤cp∧cur[i]?=some (.slice (some ⟨m.row.2 i,0,none⟩) r.length cp)
  more:∀ b,m.more b↔∃ i,i < rows.length∧m.row.2 i=b
  inj:∀ i j,i < rows.length→j < rows.length→m.row.2 i=m.row.2 j→i=j
  rows:∀ (i:Nat) (r:List AV),rows[i]?=some r→∃ cur:Array Value,w.heap[m.row.2 i]?=some (.cells cur ty (0,0))∧r.length * sz≤cur.size ∧
    ∀ (k:Nat) (x:AV),r[k]?=some x→∀ (j:Nat) (y:AV),x.cells[j]?=some y→∃ v,cur[k * sz + j]?=some v∧v.oneCell'=true∧RdD w q y v
def gridC (ty:TypeId) (sz:Nat) (oty:TypeId) (n:Nat) (rows:List (List AV)):Cus:={ J:=GridJ ty sz oty n rows,fr:=rows.all fun r=>r.all fun y=>y.cells.all AV.free,tab:=[],tabOk:=fun _ _ h=>by cases h }
theorem gridC_stab (ty:TypeId) (sz:Nat) (oty:TypeId) (n:Nat) (rows:List (List AV)):CStab (gridC ty sz oty n rows):=by
  intro w w' m m' q q' h e1 e2 e3 e4 e5 hb hq
  have h:GridJ ty sz oty n rows w m q:=h
  refine ⟨by rw [e3]; exact h.hsz,by rw [e4]; exact h.rsz,h.pos,h.len,by rw [e2]; exact h.room,by rw [e2]; exact h.cap,h.good, ?_,by rw [e5,e4]; exact h.more,by rw [e4]; exact h.inj,fun i r hr=>?_⟩
  · have hk:=h.blk
    rw [e1,e2,e4]
    cases hmb:m.blk with
    | none=>simpa [hmb] using hk
    | some b =>
      simp only [hmb] at hk ⊢
      obtain ⟨cur,h1,h2⟩:=hk
      exact ⟨cur,by rw [hb b (.inl hmb)]; exact h1,h2⟩
  · obtain ⟨cur,h1,h2,h3⟩:=h.rows i r hr
    rw [e4]
    refine ⟨cur,by rw [hb _ (.inr ((h.more _).2 ⟨i,(List.getElem?_eq_some_iff.1 hr).1,rfl⟩))]; exact h1,h2,fun k x hx j y hy=>?_⟩
    obtain ⟨v,g1,g2,g3⟩:=h3 k x hx j y hy
    refine ⟨v,g1,g2, ?_⟩
    rcases hq with hq | hq
    · exact g3.evolve' hq
    · simp only [gridC,List.all_eq_true] at hq
      exact g3.free (hq r (List.mem_of_getElem? hr) x (List.mem_of_getElem? hx) y (List.mem_of_getElem? hy))
def ObjOk (w:World) (e:Env) (m:Mta):Obj→Prop
  | .row d ty sz els=>RowOk w e m d ty sz els
  | .mp d sh ents=>MapOk w e m d sh ents
  | .ext l J=>ExtOk w e m l J
  | .gone=>m.gone∧∀ b,¬ m.more b
  | .fix ty sz cap els=>RowOk w e m true ty sz els∧m.cap=cap
  | .grid ty sz oty n rows=>CusOk w e m (gridC ty sz oty n rows)
  | .cus C=>CusOk w e m C
theorem ObjOk.live {w:World} {e:Env} {m:Mta} {ty:TypeId} {sz:Nat} {oty:TypeId} {n:Nat} {rows:List (List AV)} (h:ObjOk w e m (.grid ty sz oty n rows)):¬ m.gone∧GridJ ty sz oty n rows w m e.q:=⟨CusOk.ngone h,CusOk.holds h⟩
structure Sim (w:World) (e:Env) (objs:List (Nat×Obj)):Prop where
  dom:∀ id,(e.get id).isSome=(look id objs).isSome
  inj:∀ i j m m' b,e.get i=some m→e.get j=some m'→m.has b→m'.has b→i=j
  obj:∀ id o m,look id objs=some o→e.get id=some m→ObjOk w e m o
  prok:∀ b,e.owned b→e.pr b
  new:∀ b,w.heap.size≤b→e.pr b
def unp (id:Nat):Bool:=decide (id < 10000) || (decide (15000≤id) && !(id == 19999))
theorem unp_ne {id j:Nat} (h:unp id=true) (h1:unp j=false):j≠id:=fun hj=>by rw [hj,h] at h1; cases h1
def Mta.same (m m' : Mta):Prop:=m'.blk=m.blk∧m'.cap=m.cap∧m'.sz=m.sz∧m'.row=m.row
theorem Mta.same_refl (m:Mta):m.same m:=⟨rfl,rfl,rfl,rfl⟩
theorem Mta.same_trans {a b c:Mta} (h:a.same b) (k:b.same c):a.same c:=⟨k.1.trans h.1,k.2.1.trans h.2.1,k.2.2.1.trans h.2.2.1,k.2.2.2.trans h.2.2.2⟩
structure Pinned (e e' : Env):Prop where
  pin:∀ id,10000≤id→id < 15000→e'.get id=e.get id
  ext:∀ m,e.get 19999=some m→∃ m',e'.get 19999=some m'∧m.same m'
theorem Pinned.refl (e:Env):Pinned e e:=⟨fun _ _ _=>rfl,fun m h=>⟨m,h,m.same_refl⟩⟩
theorem Pinned.of {e e' : Env} (h:∀ j,unp j=false→e'.get j=e.get j):Pinned e e':=
  ⟨fun id h1 h2=>h id (by simp [unp]; omega),fun m hm=>⟨m,by rw [h 19999 (by decide)]; exact hm,m.same_refl⟩⟩
theorem Pinned.trans {a b c:Env} (h:Pinned a b) (k:Pinned b c):Pinned a c:=
  ⟨fun id h1 h2=>(k.pin id h1 h2).trans (h.pin id h1 h2),fun m hm=>let ⟨m1,h1,h2⟩:=h.ext m hm; let ⟨m2,h3,h4⟩:=k.ext m1 h1; ⟨m2,h3,Mta.same_trans h2 h4⟩⟩
structure Fr (w:World) (e:Env) (w' : World) (e' : Env):Prop where
  os:w'.os=w.os
  tape:w'.tape=w.tape
  output:w'.output=w.output
  size:w.heap.size≤w'.heap.size
  blk:∀ b,b < w.heap.size→¬ e.owned b→w'.heap[b]?=w.heap[b]?
  own:∀ b,e'.owned b→b < w.heap.size→e.owned b
  prb:(e'.pr,e'.bs)=(e.pr,e.bs)
  pins:Pinned e e'
theorem Fr.pr {w w' : World} {e e' : Env} (h:Fr w e w' e'):e'.pr=e.pr:=congrArg Prod.fst h.prb
theorem Fr.bs {w w' : World} {e e' : Env} (h:Fr w e w' e'):e'.bs=e.bs:=congrArg Prod.snd h.prb
theorem Fr.pin {w w' : World} {e e' : Env} (h:Fr w e w' e'):∀ id,10000≤id→id < 15000→e'.get id=e.get id:=h.pins.pin
theorem Fr.refl (w:World) (e:Env):Fr w e w e:=⟨rfl,rfl,rfl,Nat.le_refl _,fun _ _ _=>rfl,fun _ h _=>h,rfl,.refl e⟩
theorem Fr.trans {w w₁ w₂:World} {e e₁ e₂:Env} (h:Fr w e w₁ e₁) (k:Fr w₁ e₁ w₂ e₂):Fr w e w₂ e₂:=
  ⟨k.os.trans h.os,k.tape.trans h.tape,k.output.trans h.output,Nat.le_trans h.size k.size,
    fun b hb hn=>(k.blk b (Nat.lt_of_lt_of_le hb h.size) (fun ho=>hn (h.own b ho hb))).trans (h.blk b hb hn),
    fun b ho hb=>h.own b (k.own b ho (Nat.lt_of_lt_of_le hb h.size)) hb,k.prb.trans h.prb,h.pins.trans k.pins⟩
theorem Fr.q {w w' : World} {e e' : Env} (h:Fr w e w' e'):∀ b,e.q b→b < w.heap.size→w'.heap[b]?=w.heap[b]?∧e'.q b:=
  fun b hq hb=>⟨h.blk b hb hq.2,by rw [Env.q,h.pr]; exact ⟨hq.1,fun ho=>hq.2 (h.own b ho hb)⟩⟩
theorem RdD.fr {w w' : World} {e e' : Env} (hf:Fr w e w' e') {x:AV} {v:Value} (h:RdD w e.q x v):RdD w' e'.q x v:=h.evolve hf.q
theorem Rd.fr {w w' : World} {e e' : Env} (hf:Fr w e w' e') {x:AV} {v:Value} (h:Rd w e x v) (hg:∀ id,x.men id=true→e'.get id=e.get id):Rd w' e' x v:=h.evolve hf.q hg
def Obj.men (id:Nat):Obj→Bool
  | .row true _ _ _=>false
  | .row false _ _ els=>AV.menL id els
  | .mp true _ _=>false
  | .mp false _ ents=>AV.menL id (ents.map (·.2))
  | .ext _ _=>false
  | .gone=>false
  | .fix _ _ _ _=>false
  | .grid _ _ _ _ _=>false
  | .cus _=>false
theorem menL_cells {id:Nat} {x:AV} (h:x.men id=false):∀ y∈x.cells,y.men id=false:=by
  intro y hy
  cases hm:y.men id with
  | false=>rfl
  | true =>
    cases x <;> simp only [AV.cells,List.mem_singleton] at hy <;> first
      | (subst hy; rw [hm] at h; exact h)
      | (simp only [AV.men] at h; rw [AV.menL_of hy hm] at h; exact h)
theorem ObjOk.fr {w w' : World} {e e' : Env} (hf : Fr w e w' e') {m : Mta} {o : Obj} (h : ObjOk w e m o) (hb : ∀ b, m.has b → w'.heap[b]? = w.heap[b]?)
    (hg:∀ id,o.men id=true→e'.get id=e.get id):ObjOk w' e' m o:=by
  cases o with
  | row d ty sz els =>
    refine ⟨h.hsz,h.len,h.cap,h.cells,h.only, ?_⟩
    have hk:=h.blk
    cases hmb:m.blk with
    | none=>simpa [hmb] using hk
    | some b =>
      simp only [hmb] at hk ⊢
      obtain ⟨cur,h1,h2,h3⟩:=hk
      refine ⟨cur,by rw [hb b (.inl hmb)]; exact h1,h2,fun i x hx j y hy=>?_⟩
      obtain ⟨v,g1,g2,g3⟩:=h3 i x hx j y hy
      refine ⟨v,g1,g2, ?_⟩
      cases d with
      | true=>simp only [CellRd,if_true] at g3 ⊢; exact g3.fr hf
      | false =>
        simp only [CellRd,Bool.false_eq_true,if_false] at g3 ⊢
        refine g3.fr hf fun id hid=>hg id ?_
        simp only [Obj.men]
        cases hx' : x.men id with
        | true=>exact AV.menL_of (List.mem_of_getElem? hx) hx'
        | false=>rw [menL_cells hx' y (List.mem_of_getElem? hy)] at hid; exact absurd hid (by simp)
  | mp d sh ents =>
    obtain ⟨b,es,clock,h1,h2,h3,h3',h4⟩:=h.blk
    refine ⟨h.only,h.good,b,es,clock,h1,by rw [hb b (.inl h1)]; exact h2,h3,h3',fun i k x hx=>?_⟩
    obtain ⟨en,g1,g2,g3⟩:=h4 i k x hx
    refine ⟨en,g1,g2, ?_⟩
    cases d with
    | true=>simp only [CellRd,if_true] at g3 ⊢; exact g3.fr hf
    | false =>
      simp only [CellRd,Bool.false_eq_true,if_false] at g3 ⊢
      refine g3.fr hf fun id hid=>hg id ?_
      simp only [Obj.men]
      exact AV.menL_of (List.mem_map.2 ⟨_,List.mem_of_getElem? hx,rfl⟩) hid
  | ext l J=>exact ExtOk.go h hf.size ⟨hf.os,hf.tape,hf.output⟩ hb fun b h1 h2=>hf.q b h1 h2.lt
  | gone=>exact h
  | fix ty sz cap els=>exact ⟨h.1.keepT hb fun _ _ g=>g.fr hf,h.2⟩
  | grid ty sz oty n rows=>exact CusOk.go h hf.size hb fun b h1 h2=>hf.q b h1 h2.lt
  | cus C=>exact CusOk.go h hf.size hb fun b h1 h2=>hf.q b h1 h2.lt
theorem ObjOk.quiet {w w' : World} {e:Env} {m:Mta} {o:Obj} (h:ObjOk w e m o) (hq:∀ b,CellIn w b→w'.heap[b]?=w.heap[b]?) (hb:∀ b,m.has b→w'.heap[b]?=w.heap[b]?)
    (hsz:w.heap.size≤w'.heap.size) (hos:w'.os=w.os∧w'.tape=w.tape∧w'.output=w.output):ObjOk w' e m o:=by
  have hqq:∀ b,e.q b→CellIn w b→w'.heap[b]?=w.heap[b]?∧e.q b:=fun b h1 h2=>⟨hq b h2,h1⟩
  cases o with
  | row d ty sz els =>
    refine ⟨h.hsz,h.len,h.cap,h.cells,h.only, ?_⟩
    have hk:=h.blk
    cases hmb:m.blk with
    | none=>simpa [hmb] using hk
    | some b =>
      simp only [hmb] at hk ⊢
      obtain ⟨cur,h1,h2,h3⟩:=hk
      refine ⟨cur,by rw [hb b (.inl hmb)]; exact h1,h2,fun i x hx j y hy=>?_⟩
      obtain ⟨v,g1,g2,g3⟩:=h3 i x hx j y hy
      refine ⟨v,g1,g2, ?_⟩
      cases d with
      | true=>simp only [CellRd,if_true] at g3 ⊢; exact g3.evolve' hqq
      | false=>simp only [CellRd,Bool.false_eq_true,if_false] at g3 ⊢; exact g3.evolve' hqq (fun _ _=>rfl)
  | mp d sh ents =>
    obtain ⟨b,es,clock,h1,h2,h3,h3',h4⟩:=h.blk
    refine ⟨h.only,h.good,b,es,clock,h1,by rw [hb b (.inl h1)]; exact h2,h3,h3',fun i k x hx=>?_⟩
    obtain ⟨en,g1,g2,g3⟩:=h4 i k x hx
    refine ⟨en,g1,g2, ?_⟩
    cases d with
    | true=>simp only [CellRd,if_true] at g3 ⊢; exact g3.evolve' hqq
    | false=>simp only [CellRd,Bool.false_eq_true,if_false] at g3 ⊢; exact g3.evolve' hqq (fun _ _=>rfl)
  | ext l J=>exact ExtOk.go h hsz hos hb hqq
  | gone=>exact h
  | fix ty sz cap els=>exact ⟨h.1.keepT hb fun _ _ g=>g.evolve' hqq,h.2⟩
  | grid ty sz oty n rows=>exact CusOk.go h hsz hb hqq
  | cus C=>exact CusOk.go h hsz hb hqq
end Go.Sim
namespace Go.Sim
open Go.RowKit
structure St where
  nt:Nat
  tmps:List (Nat×AV)
  objs:List (Nat×Obj)
def St.at (st:St) (t:Nat):AV:=(look t st.tmps).getD .dead
def St.glob (st : St) (g : Nat) : AV :=
  match look 10900 st.objs with
  | some (.cus C)=>(match look g C.tab with
    | some vs=>.iptr (vs.map AV.val)
    | none=>.dead)
  | _=>.dead
theorem glob_rd {st : St} {w : World} {e : Env} (hd : ∀ id, (look id st.objs).isSome = true → (e.get id).isSome = true) (ho : ∀ id o m, look id st.objs = some o → e.get id = some m → ObjOk w e m o) (g : Nat) : Rd w e (st.glob g) (.pointer (some ⟨g, 0, none⟩)) := by
  unfold St.glob
  split
  · rename_i C hC
    split
    · rename_i vs ht
      obtain ⟨m,hm⟩:=Option.isSome_iff_exists.1 (hd _ (by rw [hC]; rfl))
      have hk:CusOk w e m C:=ho _ _ m hC hm
      obtain ⟨h1,h2,h3⟩:=C.tabOk _ _ (look_mem ht) _ _ _ hk.holds
      refine .iptr _ g 0 (fun j=>(vs[j]?).getD .nilIface) (fun e=>h2 (List.map_eq_nil_iff.1 e)) h1 (fun j y hy=>?_) (fun j y hy=>?_) <;>
      · rw [List.getElem?_map] at hy
        obtain ⟨u,hu,rfl⟩:=Option.map_eq_some_iff.1 hy
        rw [hu]
        first | (rw [Nat.zero_add]; exact h3 j u hu) | exact .val u
    · exact .dead _
  · exact .dead _
def St.ev (st:St):Operand→AV
  | .tmp t=>st.at t
  | .const v=>.val v
  | .global g=>st.glob g
  | .func f=>.clo f []
def Marks (w:World) (e:Env) (ds:List Deferred):Prop:=(ds.Nodup∧e.bs≤w.heap.size)∧∀ d∈ds,∃ D,d={ target:=.collected D,args:=#[] }∧w.heap[D]?=some (.deferred (some []))∧¬ e.owned D∧e.bs≤D
theorem Marks.nil {w:World} {e:Env} (h:e.bs≤w.heap.size):Marks w e []:=⟨⟨List.nodup_nil,h⟩,fun d hd=>by simp at hd⟩
theorem Marks.fr {w w' : World} {e e' : Env} (hf:Fr w e w' e') {ds:List Deferred} (h:Marks w e ds):Marks w' e' ds:=⟨⟨h.1.1,by rw [hf.bs]; exact Nat.le_trans h.1.2 hf.size⟩,fun d hd=>by
  obtain ⟨D,h1,h2,h3,h4⟩:=h.2 d hd
  have hlt:D < w.heap.size:=(Array.getElem?_eq_some_iff.1 h2).1
  exact ⟨D,h1,by rw [hf.blk D hlt h3]; exact h2,fun ho=>h3 (hf.own D ho hlt),by rw [hf.bs]; exact h4⟩⟩
structure Conc (st:St) (a:Act) (w:World) (e:Env):Prop where
  sim:Sim w e st.objs
  defers:Marks w e a.defers
  size:a.tmps.size=st.nt
  tmp:∀ t x,look t st.tmps=some x→∃ v,a.tmps[t]?=some v∧Rd w e x v
theorem Conc.ev {st:St} {a:Act} {w:World} {e:Env} (h:Conc st a w e) (o:Operand):Rd w e (st.ev o) (a.eval o):=by
  cases o with
  | tmp t =>
    simp only [St.ev,St.at,Act.eval]
    cases hl:look t st.tmps with
    | none=>exact .dead _
    | some x =>
      obtain ⟨v,hv,hr⟩:=h.tmp t x hl
      simpa [Array.getD_eq_getD_getElem?,hv] using hr
  | const v=>exact .data (.val v)
  | global g=>exact glob_rd (fun id h1=>by rw [h.sim.dom]; exact h1) h.sim.obj g
  | func f=>exact .clo f [] #[] rfl (fun i x v hx=>by simp at hx)
def upd {α:Type} (t:Nat) (x:α):List (Nat×α)→List (Nat×α)
  | []=>[(t,x)]
  | (k,y) :: r=>if k=t then (k,x) :: r else (k,y) :: upd t x r
def del {α:Type} (t:Nat):List (Nat×α)→List (Nat×α)
  | []=>[]
  | (k,y) :: r=>if k=t then del t r else (k,y) :: del t r
def mapV {α:Type} (f:α→α):List (Nat×α)→List (Nat×α)
  | []=>[]
  | (k,y) :: r=>(k,f y) :: mapV f r
theorem look_upd {α:Type} (t:Nat) (x:α) (s:Nat):∀ l:List (Nat×α),look s (upd t x l)=if t=s then some x else look s l
  | []=>by simp [upd,look]
  | (k,y) :: r=>by
    simp only [upd]
    by_cases hk:k=t
    · subst hk; simp only [if_true,look]; split <;> rfl
    · rw [if_neg hk]
      simp only [look,look_upd t x s r]
      by_cases h1:k=s
      · subst h1; rw [if_pos rfl,if_pos rfl,if_neg (Ne.symm hk)]
      · rw [if_neg h1,if_neg h1]
theorem look_del {α:Type} (t s:Nat):∀ l:List (Nat×α),look s (del t l)=if t=s then none else look s l
  | []=>by simp [del,look]
  | (k,y) :: r=>by
    simp only [del]
    by_cases hk:k=t
    · subst hk; rw [if_pos rfl,look_del k s r]; simp only [look]; split <;> rfl
    · rw [if_neg hk]
      simp only [look,look_del t s r]
      by_cases h1:k=s
      · subst h1; rw [if_pos rfl,if_pos rfl,if_neg (Ne.symm hk)]
      · rw [if_neg h1,if_neg h1]
theorem look_mapV {α:Type} (f:α→α) (s:Nat):∀ l:List (Nat×α),look s (mapV f l)=(look s l).map f
  | []=>rfl
  | (k,y) :: r=>by simp only [mapV,look,look_mapV f s r]; split <;> rfl
def St.put (st:St) (dst:Option Tmp) (x:AV):St:=
  match dst with
  | some d=>{ st with tmps:=upd d x st.tmps }
  | none=>st
theorem Conc.put {st:St} {a:Act} {w:World} {e:Env} (h:Conc st a w e) {dst:Option Tmp} {x:AV} {v:Value} (hv:Rd w e x v) (hd:∀ d,dst=some d→d < st.nt) :
    Conc (st.put dst x) (a.put dst v) w e:=by
  cases dst with
  | none=>exact h
  | some d =>
    refine ⟨h.sim,by simpa [Act.put] using h.defers,by simp [Act.put,h.size,St.put],fun t y hy=>?_⟩
    simp only [St.put,look_upd] at hy
    simp only [Act.put,Array.getElem?_setIfInBounds]
    by_cases hdt:d=t
    · subst hdt
      rw [if_pos rfl] at hy; cases hy
      refine ⟨v, ?_,hv⟩
      rw [if_pos rfl,if_pos (by rw [h.size]; exact hd d rfl)]
    · rw [if_neg hdt] at hy ⊢
      exact h.tmp t y hy
/-! ### mapping the values of a state -/
def AV.mapTop (f:AV→AV):AV→AV
  | .agg l=>.agg (l.map f)
  | .tup l=>.tup (l.map f)
  | x=>f x
def AV.mapCells (f:AV→AV):AV→AV
  | .agg l=>.agg (l.map f)
  | x=>f x
def Obj.map (f:AV→AV):Obj→Obj
  | .row false ty sz els=>.row false ty sz (els.map (AV.mapCells f))
  | .mp false sh ents=>.mp false sh (ents.map fun y=>(y.1,y.2.mapTop f))
  | o=>o
def AV.kill (id:Nat) (x:AV):AV:=if x.men id then .dead else x
def AV.frz (id:Nat) (els:List AV):AV→AV
  | .own i off len=>if i=id then (if off + len≤els.length then .imm ((els.drop off).take len) else .dead) else .own i off len
  | x=>if x.men id then .dead else x
theorem AV.kill_cells (id:Nat) (x:AV) (h:x.cells=[x]):(x.kill id).cells=[x.kill id]:=by
  unfold AV.kill; split
  · rfl
  · exact h
theorem AV.frz_cells (id:Nat) (els:List AV) (x:AV) (h:x.cells=[x]):(x.frz id els).cells=[x.frz id els]:=by
  cases x <;> simp only [AV.frz] <;> (repeat' split) <;> first | rfl | exact h
theorem AV.mapCells_cells (f:AV→AV) (hf:∀ x:AV,x.cells=[x]→(f x).cells=[f x]) (x:AV):(x.mapCells f).cells=x.cells.map f:=by
  cases x <;> simp only [AV.mapCells,AV.cells,List.map_cons,List.map_nil] <;> exact hf _ rfl
def Turns (w:World) (e:Env) (w' : World) (e' : Env) (f:AV→AV):Prop:=∀ x v,Rd w e x v→Rd w' e' (f x) v
theorem Turns.top {w w' : World} {e e' : Env} {f:AV→AV} (hf:Turns w e w' e' f):Turns w e w' e' (AV.mapTop f):=by
  intro x v h
  cases x with
  | agg l =>
    obtain ⟨vs,rfl,hs,hr⟩:=h.agg_inv
    refine .agg _ vs (by simpa using hs) fun i x u hx hu=>?_
    rw [List.getElem?_map] at hx
    obtain ⟨y,hy,rfl⟩:=Option.map_eq_some_iff.1 hx
    exact hf _ _ (hr i y u hy hu)
  | tup l =>
    obtain ⟨vs,rfl,hs,hr⟩:=h.tup_inv
    refine .tup _ vs (by simpa using hs) fun i x u hx hu=>?_
    rw [List.getElem?_map] at hx
    obtain ⟨y,hy,rfl⟩:=Option.map_eq_some_iff.1 hx
    exact hf _ _ (hr i y u hy hu)
  | _=>exact hf _ _ h
theorem Turns.obj {w w' : World} {e e' : Env} {f : AV → AV} (hf : Turns w e w' e' f) (hc : ∀ x : AV, x.cells = [x] → (f x).cells = [f x])
    (hq:∀ b,e.q b→b < w.heap.size→w'.heap[b]?=w.heap[b]?∧e'.q b) {m:Mta} {o:Obj} (h:ObjOk w e m o) (hsz:w.heap.size≤w'.heap.size) (hos:w'.os=w.os∧w'.tape=w.tape∧w'.output=w.output) (hb:∀ b,m.has b→w'.heap[b]?=w.heap[b]?):ObjOk w' e' m (o.map f):=by
  cases o with
  | ext l J =>
    exact ExtOk.go h hsz hos hb fun b h1 h2=>hq b h1 h2.lt
  | gone=>exact h
  | fix ty sz cap els=>exact ⟨h.1.keepT hb fun _ _ g=>g.evolve hq,h.2⟩
  | grid ty sz oty n rows=>exact CusOk.go h hsz hb fun b h1 h2=>hq b h1 h2.lt
  | cus C=>exact CusOk.go h hsz hb fun b h1 h2=>hq b h1 h2.lt
  | mp d sh ents =>
    cases d with
    | true =>
      obtain ⟨b,es,clock,h1,h2,h3,h3',h4⟩:=h.blk
      refine ⟨h.only,h.good,b,es,clock,h1,by rw [hb b (.inl h1)]; exact h2,h3,h3',fun i k x hx=>?_⟩
      obtain ⟨en,g1,g2,g3⟩:=h4 i k x hx
      refine ⟨en,g1,g2, ?_⟩
      simp only [CellRd,if_true] at g3 ⊢; exact g3.evolve hq
    | false =>
      obtain ⟨b,es,clock,h1,h2,h3,h3',h4⟩:=h.blk
      refine ⟨h.only,⟨fun x hx=>?_, ?_⟩,b,es,clock,h1,by rw [hb b (.inl h1)]; exact h2,by simpa using h3,h3',fun i k x hx=>?_⟩
      · obtain ⟨y,hy,rfl⟩:=List.mem_map.1 hx
        exact h.good.1 y hy
      · rw [List.map_map]; exact h.good.2
      · rw [List.getElem?_map] at hx
        obtain ⟨x0,hx0,he⟩:=Option.map_eq_some_iff.1 hx
        cases he
        obtain ⟨en,g1,g2,g3⟩:=h4 i x0.1 x0.2 hx0
        refine ⟨en,g1,g2, ?_⟩
        simp only [CellRd,Bool.false_eq_true,if_false] at g3 ⊢
        exact hf.top _ _ g3
  | row d ty sz els =>
    cases d with
    | true =>
      refine ⟨h.hsz,h.len,h.cap,h.cells,h.only, ?_⟩
      have hk:=h.blk
      cases hmb:m.blk with
      | none=>simpa [hmb] using hk
      | some b =>
        simp only [hmb] at hk ⊢
        obtain ⟨cur,h1,h2,h3⟩:=hk
        refine ⟨cur,by rw [hb b (.inl hmb)]; exact h1,h2,fun i x hx j y hy=>?_⟩
        obtain ⟨v,g1,g2,g3⟩:=h3 i x hx j y hy
        refine ⟨v,g1,g2, ?_⟩
        simp only [CellRd,if_true] at g3 ⊢; exact g3.evolve hq
    | false =>
      refine ⟨h.hsz,by simpa using h.len,h.cap,fun x hx=>?_, ?_, ?_⟩
      · obtain ⟨y,hy,rfl⟩:=List.mem_map.1 hx
        rw [AV.mapCells_cells f hc,List.length_map]; exact h.cells y hy
      · exact h.only
      · have hk:=h.blk
        cases hmb:m.blk with
        | none=>simpa [hmb] using hk
        | some b =>
          simp only [hmb] at hk ⊢
          obtain ⟨cur,h1,h2,h3⟩:=hk
          refine ⟨cur,by rw [hb b (.inl hmb)]; exact h1,h2,fun i x hx j y hy=>?_⟩
          rw [List.getElem?_map] at hx
          obtain ⟨x0,hx0,rfl⟩:=Option.map_eq_some_iff.1 hx
          rw [AV.mapCells_cells f hc,List.getElem?_map] at hy
          obtain ⟨y0,hy0,rfl⟩:=Option.map_eq_some_iff.1 hy
          obtain ⟨v,g1,g2,g3⟩:=h3 i x0 hx0 j y0 hy0
          refine ⟨v,g1,g2, ?_⟩
          simp only [CellRd,Bool.false_eq_true,if_false] at g3 ⊢
          exact hf _ _ g3
def Env.drop (e:Env) (id:Nat):Env:={ e with get:=fun j=>if j=id then none else e.get j }
def Env.set (e:Env) (id:Nat) (m:Mta):Env:={ e with get:=fun j=>if j=id then some m else e.get j }
theorem Env.owned_drop {e:Env} {id b:Nat} (h:(e.drop id).owned b):e.owned b:=by
  obtain ⟨j,m,hj,hm⟩:=h
  simp only [Env.drop] at hj
  split at hj
  · cases hj
  · exact ⟨j,m,hj,hm⟩
theorem Fr.drop (w:World) (e:Env) (id:Nat) (hu:unp id=true):Fr w e w (e.drop id):=⟨rfl,rfl,rfl,Nat.le_refl _,fun _ _ _=>rfl,fun _ h _=>Env.owned_drop h,rfl,Pinned.of fun j hj=>by simp [Env.drop,unp_ne hu hj]⟩
theorem turns_kill {w w' : World} {e e' : Env} (id:Nat) (hf:Fr w e w' e') (hg:∀ j,j≠id→e'.get j=e.get j):Turns w e w' e' (AV.kill id):=by
  intro x v h
  unfold AV.kill
  cases hm:x.men id with
  | true=>exact .dead v
  | false =>
    refine h.fr hf fun j hj=>hg j fun e=>?_
    subst e; rw [hm] at hj; cases hj
def St.turn (st:St) (id:Nat) (f:AV→AV):St:={ st with tmps:=mapV (AV.mapTop f) st.tmps,objs:=del id (mapV (Obj.map f) st.objs) }
theorem Conc.shrink {st:St} {a:Act} {w:World} {e:Env} (h:Conc st a w e) (id:Nat) (f:AV→AV) (hu:unp id=true) (hf:Turns w e w (e.drop id) f) (hc:∀ x:AV,x.cells=[x]→(f x).cells=[f x]) :
    Conc (st.turn id f) a w (e.drop id):=by
  have hfr:=Fr.drop w e id hu
  refine ⟨⟨fun j=>?_,fun i j m m' b hi hj hb hb'=>?_,fun j o m ho hm=>?_,fun b hb=>h.sim.prok b (Env.owned_drop hb),h.sim.new⟩,h.defers.fr hfr,h.size,fun t x hx=>?_⟩
  · simp only [Env.drop,St.turn,look_del,look_mapV]
    by_cases hj:j=id
    · subst hj; simp
    · rw [if_neg hj,if_neg (Ne.symm hj)]; simpa using h.sim.dom j
  · simp only [Env.drop] at hi hj
    split at hi
    · cases hi
    split at hj
    · cases hj
    exact h.sim.inj i j m m' b hi hj hb hb'
  · simp only [St.turn,look_del,look_mapV] at ho
    simp only [Env.drop] at hm
    split at ho
    · cases ho
    split at hm
    · cases hm
    obtain ⟨o0,ho0,rfl⟩:=Option.map_eq_some_iff.1 ho
    exact hf.obj hc hfr.q (h.sim.obj j o0 m ho0 hm) hfr.size ⟨hfr.os,hfr.tape,hfr.output⟩ (fun _ _=>rfl)
  · simp only [St.turn,look_mapV] at hx
    obtain ⟨x0,hx0,rfl⟩:=Option.map_eq_some_iff.1 hx
    obtain ⟨v,hv,hr⟩:=h.tmp t x0 hx0
    exact ⟨v,hv,hf.top _ _ hr⟩
def St.renew (st:St) (id:Nat) (o:Obj):St:=
  { st with tmps:=mapV (AV.mapTop (AV.kill id)) st.tmps,objs:=(id,o) :: del id (mapV (Obj.map (AV.kill id)) st.objs) }
theorem Conc.renew {st:St} {a:Act} {w w' : World} {e:Env} (h:Conc st a w e) (id:Nat) (o:Obj) (m:Mta) (hfr:Fr w e w' (e.set id m))
    (hblk:∀ b,m.has b→∀ j m',j≠id→e.get j=some m'→¬ m'.has b)
    (hoth:∀ j m' b,j≠id→e.get j=some m'→m'.has b→w'.heap[b]?=w.heap[b]?)
    (hobj:ObjOk w' (e.set id m) m o) (hpr:∀ b,m.has b→e.pr b):Conc (st.renew id o) a w' (e.set id m):=by
  have hf:Turns w e w' (e.set id m) (AV.kill id):=turns_kill id hfr fun j hj=>by simp [Env.set,hj]
  refine ⟨⟨fun j=>?_,fun i j mi mj b hi hj hb hb'=>?_,fun j o' m' ho hm=>?_,fun b hb=>?_,fun b hb=>h.sim.new b (Nat.le_trans hfr.size hb)⟩,h.defers.fr hfr,h.size,fun t x hx=>?_⟩
  · simp only [Env.set,St.renew,look]
    by_cases hj:j=id
    · subst hj; simp
    · rw [if_neg hj,if_neg (Ne.symm hj),look_del,if_neg (Ne.symm hj),look_mapV]; simpa using h.sim.dom j
  · simp only [Env.set] at hi hj
    by_cases h1:i=id <;> by_cases h2:j=id
    · rw [h1,h2]
    · rw [if_pos h1] at hi; rw [if_neg h2] at hj; cases hi; exact absurd hb' (hblk b hb j mj h2 hj)
    · rw [if_neg h1] at hi; rw [if_pos h2] at hj; cases hj; exact absurd hb (hblk b hb' i mi h1 hi)
    · rw [if_neg h1] at hi; rw [if_neg h2] at hj; exact h.sim.inj i j mi mj b hi hj hb hb'
  · simp only [St.renew,look] at ho
    simp only [Env.set] at hm
    by_cases hj:j=id
    · subst hj
      rw [if_pos rfl] at ho hm
      cases ho; cases hm; exact hobj
    · rw [if_neg (Ne.symm hj),look_del,if_neg (Ne.symm hj),look_mapV] at ho
      rw [if_neg hj] at hm
      obtain ⟨o0,ho0,rfl⟩:=Option.map_eq_some_iff.1 ho
      exact hf.obj (AV.kill_cells id) hfr.q (h.sim.obj j o0 m' ho0 hm) hfr.size ⟨hfr.os,hfr.tape,hfr.output⟩ (fun b hb=>hoth j m' b hj hm hb)
  · obtain ⟨j,mj,hj,hb'⟩:=hb
    simp only [Env.set] at hj
    split at hj
    · cases hj; exact hpr b hb'
    · exact h.sim.prok b ⟨j,mj,hj,hb'⟩
  · simp only [St.renew,look_mapV] at hx
    obtain ⟨x0,hx0,rfl⟩:=Option.map_eq_some_iff.1 hx
    obtain ⟨v,hv,hr⟩:=h.tmp t x0 hx0
    exact ⟨v,hv,hf.top _ _ hr⟩
theorem Conc.write {st:St} {a:Act} {w w' : World} {e:Env} (h:Conc st a w e) (id:Nat) (o:Obj) (m:Mta) (hid:e.get id=some m) (hfr:Fr w e w' e)
    (hoth:∀ j m' b,j≠id→e.get j=some m'→m'.has b→w'.heap[b]?=w.heap[b]?) (hobj:ObjOk w' e m o):Conc { st with objs:=upd id o st.objs } a w' e:=by
  refine ⟨⟨fun j=>?_,h.sim.inj,fun j o' m' ho hm=>?_,h.sim.prok,fun b hb=>h.sim.new b (Nat.le_trans hfr.size hb)⟩,h.defers.fr hfr,h.size,fun t x hx=>?_⟩
  · show _=(look j (upd id o st.objs)).isSome
    rw [look_upd]
    by_cases hj:id=j
    · subst hj; simp [hid]
    · rw [if_neg hj]; exact h.sim.dom j
  · replace ho:look j (upd id o st.objs)=some o':=ho
    rw [look_upd] at ho
    by_cases hj:id=j
    · subst hj
      rw [if_pos rfl] at ho
      cases ho
      rw [hid] at hm; cases hm; exact hobj
    · rw [if_neg hj] at ho
      exact (h.sim.obj j o' m' ho hm).fr hfr (fun b hb=>hoth j m' b (Ne.symm hj) hm hb) (fun _ _=>rfl)
  · obtain ⟨v,hv,hr⟩:=h.tmp t x hx
    exact ⟨v,hv,hr.fr hfr fun _ _=>rfl⟩
theorem Conc.merge {st:St} {a:Act} {w w' : World} {e:Env} (h:Conc st a w e) (id j:Nat) (f:AV→AV) (hc:∀ x:AV,x.cells=[x]→(f x).cells=[f x]) (o:Obj) (m:Mta) (hne:id≠j) (hid:(e.get id).isSome=true) (hfr:Fr w e w' ((e.drop j).set id m)) (hf:Turns w e w' ((e.drop j).set id m) f)
    (hblk:∀ b,m.has b→∀ k mk,k≠id→k≠j→e.get k=some mk→¬ mk.has b) (hoth:∀ k mk b,k≠id→k≠j→e.get k=some mk→mk.has b→w'.heap[b]?=w.heap[b]?)
    (hobj:ObjOk w' ((e.drop j).set id m) m o) (hpr:∀ b,m.has b→e.pr b):Conc { st.turn j f with objs:=upd id o (st.turn j f).objs } a w' ((e.drop j).set id m):=by
  have hget:∀ k,k≠id→((e.drop j).set id m).get k=if k=j then none else e.get k:=fun k hk=>by simp [Env.set,Env.drop,hk]
  have hgid:((e.drop j).set id m).get id=some m:=by simp [Env.set]
  refine ⟨⟨fun k=>?_,fun i k mi mk b hi hk hb hb'=>?_,fun k o' m' ho hm=>?_,fun b hb=>?_,fun b hb=>h.sim.new b (Nat.le_trans hfr.size hb)⟩,h.defers.fr hfr,h.size,fun t x hx=>?_⟩
  · simp only [look_upd]
    by_cases hk:id=k
    · subst hk; simp [hgid]
    · rw [if_neg hk,hget k (Ne.symm hk)]
      simp only [St.turn,look_del,look_mapV]
      by_cases hj:k=j
      · subst hj; simp
      · rw [if_neg hj,if_neg (Ne.symm hj)]; simpa using h.sim.dom k
  · by_cases h1:i=id <;> by_cases h2:k=id
    · rw [h1,h2]
    · subst h1
      rw [hgid] at hi; cases hi
      rw [hget k h2] at hk
      split at hk
      · cases hk
      · rename_i h3; exact absurd hb' (hblk b hb k mk h2 h3 hk)
    · subst h2
      rw [hgid] at hk; cases hk
      rw [hget i h1] at hi
      split at hi
      · cases hi
      · rename_i h3; exact absurd hb (hblk b hb' i mi h1 h3 hi)
    · rw [hget i h1] at hi
      rw [hget k h2] at hk
      split at hi
      · cases hi
      split at hk
      · cases hk
      exact h.sim.inj i k mi mk b hi hk hb hb'
  · simp only [look_upd] at ho
    by_cases hk:id=k
    · subst hk
      rw [if_pos rfl] at ho
      rw [hgid] at hm
      cases ho; cases hm; exact hobj
    · rw [if_neg hk] at ho
      rw [hget k (Ne.symm hk)] at hm
      split at hm
      · cases hm
      rename_i hkj
      simp only [St.turn,look_del,look_mapV] at ho
      rw [if_neg (Ne.symm hkj)] at ho
      obtain ⟨o0,ho0,rfl⟩:=Option.map_eq_some_iff.1 ho
      exact hf.obj hc hfr.q (h.sim.obj k o0 m' ho0 hm) hfr.size ⟨hfr.os,hfr.tape,hfr.output⟩ (fun b hb=>hoth k m' b (Ne.symm hk) hkj hm hb)
  · obtain ⟨k,mk,hk,hb'⟩:=hb
    by_cases h1:k=id
    · subst h1; rw [hgid] at hk; cases hk; exact hpr b hb'
    · rw [hget k h1] at hk
      split at hk
      · cases hk
      · exact h.sim.prok b ⟨k,mk,hk,hb'⟩
  · simp only [St.turn,look_mapV] at hx
    obtain ⟨x0,hx0,rfl⟩:=Option.map_eq_some_iff.1 hx
    obtain ⟨v,hv,hr⟩:=h.tmp t x0 hx0
    exact ⟨v,hv,hf.top _ _ hr⟩
def AV.gk (id j:Nat):AV→AV
  | .own i off len=>if i=j then .dead else .own i off len
  | .ptr i k off=>if i=j then .dead else .ptr i k off
  | x=>if x.men id || x.men j then .dead else x
theorem AV.gk_cells (id j:Nat) (x:AV) (h:x.cells=[x]):(x.gk id j).cells=[x.gk id j]:=by
  cases x <;> simp only [AV.gk] <;> (repeat' split) <;> first | rfl | exact h
theorem turns_gk {w w' : World} {e : Env} {id j : Nat} {m m' : Mta} (hm : e.get id = some m) (hng : ¬ m.gone) (h1 : m'.blk = m.blk) (h2 : m'.cap = m.cap) (h3 : m'.sz = m.sz) (hfr : Fr w e w' ((e.drop j).set id m')) : Turns w e w' ((e.drop j).set id m') (AV.gk id j) := by
  intro x v hx
  have hgid:((e.drop j).set id m').get id=some m':=by simp [Env.set]
  have hget:∀ k,k≠id→k≠j→((e.drop j).set id m').get k=e.get k:=fun k hk hj=>by simp [Env.set,Env.drop,hk,hj]
  have key:∀ y:AV,y=x→Rd w' ((e.drop j).set id m') (if y.men id || y.men j then .dead else y) v:=by
    intro y hy
    subst hy
    cases hc:(y.men id || y.men j) with
    | true=>exact .dead v
    | false =>
      simp only [Bool.or_eq_false_iff] at hc
      refine hx.fr hfr fun k hk=>hget k ?_ ?_
      · rintro rfl; rw [hc.1] at hk; cases hk
      · rintro rfl; rw [hc.2] at hk; cases hk
  cases x with
  | own i off len =>
    simp only [AV.gk]
    split
    · exact .dead v
    · rename_i hij
      by_cases hi:i=id
      · subst hi
        cases hx with
        | data hx=>cases hx
        | own0 _ m0 hm0 hb a=>rw [hm] at hm0; cases hm0; exact .own0 _ m' hgid (by rw [h1]; exact hb) a
        | ownX _ _ _ m0 hm0 hg=>rw [hm] at hm0; cases hm0; exact absurd hg hng
        | own _ _ _ m0 b hm0 hb hc =>
          rw [hm] at hm0; cases hm0
          have:=Rd.own (w:=w') (e:=(e.drop j).set i m') i off len m' b hgid (by rw [h1]; exact hb) (by rw [h2]; exact hc)
          rwa [h2,h3] at this
      · exact hx.fr hfr fun k hk=>by simp only [AV.men,beq_iff_eq] at hk; subst hk; exact hget _ hi hij
  | ptr i k off =>
    simp only [AV.gk]
    split
    · exact .dead v
    · rename_i hij
      by_cases hi:i=id
      · subst hi
        cases hx with
        | data hx=>cases hx
        | ptrX _ _ _ m0 hm0 hg=>rw [hm] at hm0; cases hm0; exact absurd hg hng
        | ptr _ _ _ m0 b hm0 hb =>
          rw [hm] at hm0; cases hm0
          have:=Rd.ptr (w:=w') (e:=(e.drop j).set i m') i k off m' b hgid (by rw [h1]; exact hb)
          rwa [h3] at this
      · exact hx.fr hfr fun k hk=>by simp only [AV.men,beq_iff_eq] at hk; subst hk; exact hget _ hi hij
  | _=>exact key _ rfl
theorem Fr.merge {w w' : World} {e:Env} {id j:Nat} {m mj m' : Mta} (hm:e.get id=some m) (hj:e.get j=some mj) (hu:unp id=true) (huj:unp j=true) (hos:w'.os=w.os∧w'.tape=w.tape∧w'.output=w.output) (hsz:w.heap.size≤w'.heap.size)
    (hb:∀ b,b < w.heap.size→¬ e.owned b→w'.heap[b]?=w.heap[b]?) (hh:∀ b,m'.has b→b < w.heap.size→m.has b∨mj.has b):Fr w e w' ((e.drop j).set id m'):=by
  refine ⟨hos.1,hos.2.1,hos.2.2,hsz,hb,fun b ho hlt=>?_,rfl,Pinned.of fun k hk=>?_⟩
  · obtain ⟨k,mk,h1,h2⟩:=ho
    simp only [Env.set,Env.drop] at h1
    split at h1
    · cases h1
      rcases hh b h2 hlt with h3 | h3
      · exact ⟨id,m,hm,h3⟩
      · exact ⟨j,mj,hj,h3⟩
    · split at h1
      · cases h1
      · exact ⟨k,mk,h1,h2⟩
  · simp only [Env.set,Env.drop]
    rw [if_neg (unp_ne hu hk),if_neg (unp_ne huj hk)]
theorem Conc.less {st:St} {a:Act} {w:World} {e:Env} (h:Conc st a w e) (tm:List (Nat×AV)) (ht:∀ t x,look t tm=some x→look t st.tmps=some x):Conc { st with tmps:=tm } a w e:=
  ⟨h.sim,h.defers,h.size,fun t x hx=>h.tmp t x (ht t x hx)⟩
end Go.Sim
namespace Go.Sim
open Go.RowKit
/-! ### types -/
def eqVals:List Value→List Value→Option Bool
  | [],[]=>some true
  | .int k a :: xs,.int k' b :: ys=>if k=k' then (eqVals xs ys).map ((a == b) && ·) else none
  | _,_=>none
structure TI where
  size:Nat
  bytes:Nat
  zero:Value
  desc:TypeDesc
  flat:Bool
  key:Bool
def isAggD:TypeDesc→Bool
  | .struct _ | .array _ _=>true
  | _=>false
def EqFlat (P:Program) (t:TypeId):Prop:=
  P.eqGuardType P.depth t=false∧∀ (w:World) (xs ys:List Value) (r:Bool),eqVals xs ys=some r→(P.info? t).map (·.size)=some xs.length→(Op.equalIn 10000 t (.agg xs.toArray) (.agg ys.toArray)).run P w = .ok r w
def KeyTI (P:Program) (t:TypeId) (sh:Value):Prop:=Maps.Keyed P t∧∀ v,fitsKey sh v=true→∃ l,keyOf P t v=some l
structure TIOk (P:Program) (t:TypeId) (i:TI):Prop where
  info:(P.info? t).map (fun k=>(k.size,k.bytes,k.zero))=some (i.size,i.bytes,some i.zero)
  und:P.underlying t=some i.desc
  flat:i.flat=true→EqFlat P t
  key:i.key=true→KeyTI P t i.zero
  zsz:i.zero.cells.size=i.size
  zone:i.zero.cells.all (·.oneCell')=true
def TOk (P:Program) (Γ:TypeId→Option TI):Prop:=∀ t i,Γ t=some i→TIOk P t i
section
variable {P:Program} {Γ:TypeId→Option TI}
theorem addr_add (b off n:Nat):(⟨b,off,none⟩:Addr).add n=⟨b,off + n,none⟩:=by
  unfold Addr.add; split
  · rename_i h; subst h; rfl
  · rfl
theorem TIOk.parts {t:TypeId} {i:TI} (h:TIOk P t i):∃ k,P.info? t=some k∧k.size=i.size∧k.bytes=i.bytes∧k.zero=some i.zero:=by
  have:=h.info
  cases hk:P.info? t with
  | none=>rw [hk] at this; simp at this
  | some k=>rw [hk] at this; simp at this; exact ⟨k,rfl,this.1,this.2.1,this.2.2⟩
theorem run_size {t:TypeId} {i:TI} (h:TIOk P t i) (w:World):(sizeOf t).run P w = .ok i.size w:=by
  obtain ⟨k,hk,hs,_⟩:=h.parts
  simp [sizeOf,typeInfo,hk,hs]
theorem run_und {t:TypeId} {i:TI} (h:TIOk P t i) (w:World):(underlying t).run P w = .ok i.desc w:=run_underlying h.und w
theorem run_zero {t:TypeId} {i:TI} (h:TIOk P t i) (w:World):(zeroValue t).run P w = .ok i.zero w:=by
  obtain ⟨k,hk,_,_,hz⟩:=h.parts
  simp [zeroValue,typeInfo,hk,hz]
theorem run_agg {t:TypeId} {i:TI} (h:TIOk P t i) (w:World):(isAgg t).run P w = .ok (isAggD i.desc) w:=by
  simp only [isAgg,Sem.run_bind,run_und h,Result.andThen_ok]
  cases i.desc <;> simp [isAggD]
/-! ### loads -/
def loadCellsA (ti:TI) (cells:List AV) (off:Nat):Option AV:=
  if isAggD ti.desc then (if off + ti.size≤cells.length then some (.agg ((cells.drop off).take ti.size)) else none) else cells[off]?
theorem run_loadVar_cells {t : TypeId} {ti : TI} (h : TIOk P t ti) {w : World} {e : Env} {b o off : Nat} {cells : List AV} {x : AV} (hx : loadCellsA ti cells off = some x)
    (hc:∀ (j:Nat) (y:AV),cells[j]?=some y→∃ v,w.cell? ⟨b,o + j,none⟩=some v∧Rd w e y v) :
    ∃ v,(loadVar t ⟨b,o + off,none⟩).run P w = .ok v w∧Rd w e x v:=by
  unfold loadCellsA at hx
  simp only [loadVar,Sem.run_bind,run_agg h,Result.andThen_ok]
  cases ha:isAggD ti.desc with
  | false =>
    simp only [ha,Bool.false_eq_true,if_false] at hx ⊢
    obtain ⟨v,hv,hr⟩:=hc off x hx
    exact ⟨v,by simp [hv],hr⟩
  | true =>
    simp only [ha,if_true] at hx ⊢
    split at hx
    · rename_i hle
      cases hx
      have hex:∀ j,j < ti.size→∃ v,w.cell? ⟨b,o + off + j,none⟩=some v∧∀ y,cells[off + j]?=some y→Rd w e y v:=by
        intro j hj
        obtain ⟨v,hv,hr⟩:=hc (off + j) cells[off + j] (by rw [List.getElem?_eq_getElem])
        exact ⟨v,by rw [← hv,Nat.add_assoc],fun y hy=>by rw [List.getElem?_eq_getElem (by omega)] at hy; cases hy; exact hr⟩
      let f:Nat→Value:=fun j=>((w.cell? ⟨b,o + off + j,none⟩).getD undef)
      have hf:∀ j,j < ti.size→w.cell? ((⟨b,o + off,none⟩:Addr).add j)=some (f j):=by
        intro j hj
        obtain ⟨v,hv,_⟩:=hex j hj
        rw [addr_add]; simp [f,hv]
      refine ⟨.agg ((List.range ti.size).map f).toArray, ?_, ?_⟩
      · rw [Sem.run_bind,run_size h,Result.andThen_ok,Sem.run_bind,run_loadCells w _ _ f hf]; rfl
      · refine .agg _ _ (by simp; omega) fun i y v hy hv=>?_
        rw [List.getElem?_take] at hy
        split at hy
        · rename_i hi
          rw [List.getElem?_drop] at hy
          obtain ⟨u,hu,hr⟩:=hex i hi
          simp [List.getElem?_map,List.getElem?_range hi] at hv
          subst hv
          simp only [f,hu]
          exact hr y hy
        · cases hy
    · cases hx
def indexA (ti te : TI) (objs : List (Nat × Obj)) (x ix : AV) : Option AV :=
  match ti.desc,x,ix with
  | .slice _,.imm l,.val (.int _ n)=>if 0≤n∧n < l.length then (match l[n.toNat]? with | some y=>if y.cells.length=te.size then some (.iptr y.cells) else none | none=>none) else none
  | .slice _,.own id off len,.val (.int _ n)=>match look id objs with
    | some (.row _ _ sz _)=>if sz=te.size∧0≤n∧n < len then some (.ptr id (off + n.toNat) 0) else none
    | some (.grid _ _ _ _ _)=>if te.size=1∧0≤n∧n < len then some (.ptr id (off + n.toNat) 0) else none
    | _=>none
  | .slice _,.sub id i len,.val (.int _ n)=>match look id objs with
    | some (.grid _ sz _ _ _)=>if sz=te.size∧0≤n∧n < len then some (.sptr id i n.toNat 0) else none
    | _=>none
  | .array len _,.ptr id i off,.val (.int _ n)=>if 0≤n∧n < len then some (.ptr id i (off + n.toNat * te.size)) else none
  | .array len _,.sptr id i k off,.val (.int _ n)=>if 0≤n∧n < len then some (.sptr id i k (off + n.toNat * te.size)) else none
  | .array len _,.iptr l,.val (.int _ n)=>if (0≤n∧n < len)∧n.toNat * te.size < l.length then some (.iptr (l.drop (n.toNat * te.size))) else none
  | _,_,_=>none
def elemD:TypeDesc→TypeId
  | .slice e=>e
  | .array _ e=>e
  | _=>0
theorem run_indexA {st : St} {w : World} {e : Env} {t : TypeId} {ti te : TI} (h : TIOk P t ti) (he : TIOk P (elemD ti.desc) te) (hs : ∀ id o m, look id st.objs = some o → e.get id = some m → ObjOk w e m o) {x ix r : AV} {vx vi : Value} (hx : Rd w e x vx) (hi : Rd w e ix vi)
    (hr:indexA ti te st.objs x ix=some r):∃ v,(Instr.indexAt t vx vi).run P w = .ok v w∧Rd w e r v:=by
  unfold indexA at hr
  split at hr
  · rename_i el l k n hd
    split at hr
    · rename_i hn
      obtain rfl:=hi.val_inv
      have hel:elemD ti.desc=el:=by rw [hd]; rfl
      rw [hel] at he
      split at hr
      · rename_i y hy
        split at hr
        · rename_i hys
          cases hr
          cases hx with
          | data hx =>
            cases hx with
            | imm0 a cap=>simp at hn; omega
            | imm _ b off cap sz vals hne hz hq hlen hcap hsz' hc hrr =>
              have hsz0:sz=te.size:=by rw [← hys,hsz' y (List.mem_of_getElem? hy)]
              subst hsz0
              refine ⟨.pointer (some ⟨b,off + n.toNat * te.size,none⟩), ?_,.iptr _ b _ (fun j=>vals n.toNat j) ?_ hq (fun j z hz=>(hc _ _ hy j z hz).1) (fun j z hz=>hrr _ _ hy j z hz)⟩
              · simp [Instr.indexAt,asIntOf,run_und h,hd,hn.1,hn.2,run_size he,addr_add]
              · intro hnil
                rw [hnil] at hys; simp at hys; omega
        · cases hr
      · cases hr
    · cases hr
  · rename_i el id off len k n hd
    split at hr
    · rename_i dd ty sz els ho
      split at hr
      · rename_i hn
        obtain ⟨hsz,hn⟩:=hn
        cases hr
        obtain rfl:=hi.val_inv
        have hel:elemD ti.desc=el:=by rw [hd]; rfl
        rw [hel] at he
        cases hx with
        | data hx=>cases hx
        | own0 _ m hm hb a=>simp at hn; omega
        | ownX _ _ _ m hm hg a cap ha=>exact absurd hg (hs id _ m ho hm).ngone
        | own _ _ _ m b hm hb hc =>
          have hms:m.sz=te.size:=by rw [← hsz]; exact (hs id _ m ho hm).hsz
          refine ⟨.pointer (some ⟨b,off * m.sz + n.toNat * te.size,none⟩), ?_, ?_⟩
          · simp [Instr.indexAt,asIntOf,run_und h,hd,hn.1,hn.2,run_size he,addr_add]
          · have:=Rd.ptr (w:=w) (e:=e) id (off + n.toNat) 0 m b hm hb
            rw [show off * m.sz + n.toNat * te.size=(off + n.toNat) * m.sz + 0 from by rw [hms,Nat.add_mul]; omega]
            exact this
      · cases hr
    · rename_i ho
      split at hr
      · rename_i hn
        obtain ⟨hsz,hn⟩:=hn
        cases hr
        obtain rfl:=hi.val_inv
        have hel:elemD ti.desc=el:=by rw [hd]; rfl
        rw [hel] at he
        cases hx with
        | data hx=>cases hx
        | own0 _ m hm hb a=>simp at hn; omega
        | ownX _ _ _ m hm hg a cap ha=>exact absurd hg (hs id _ m ho hm).live.1
        | own _ _ _ m b hm hb hc =>
          have hms:m.sz=te.size:=by rw [hsz]; exact (hs id _ m ho hm).live.2.hsz
          refine ⟨.pointer (some ⟨b,off * m.sz + n.toNat * te.size,none⟩), ?_, ?_⟩
          · simp [Instr.indexAt,asIntOf,run_und h,hd,hn.1,hn.2,run_size he,addr_add]
          · have:=Rd.ptr (w:=w) (e:=e) id (off + n.toNat) 0 m b hm hb
            rw [show off * m.sz + n.toNat * te.size=(off + n.toNat) * m.sz + 0 from by rw [hms,Nat.add_mul]; omega]
            exact this
      · cases hr
    · cases hr
  · rename_i el id i len k n hd
    split at hr
    · rename_i ty sz oty nn rows ho
      split at hr
      · rename_i hn
        obtain ⟨hsz,hn⟩:=hn
        cases hr
        obtain rfl:=hi.val_inv
        have hel:elemD ti.desc=el:=by rw [hd]; rfl
        rw [hel] at he
        cases hx with
        | data hx=>cases hx
        | subX _ _ _ cap m hm hg a=>exact absurd hg (hs id _ m ho hm).live.1
        | sub _ _ _ cap m hm =>
          have hms:m.row.1=te.size:=by rw [← hsz]; exact (hs id _ m ho hm).live.2.rsz
          refine ⟨.pointer (some ⟨m.row.2 i,0 + n.toNat * te.size,none⟩), ?_, ?_⟩
          · simp [Instr.indexAt,asIntOf,run_und h,hd,hn.1,hn.2,run_size he,addr_add]
          · have:=Rd.sptr (w:=w) (e:=e) id i n.toNat 0 m hm
            rw [show 0 + n.toNat * te.size=n.toNat * m.row.1 + 0 from by rw [hms]; omega]
            exact this
      · cases hr
    · cases hr
  · rename_i len el id i off k n hd
    split at hr
    · rename_i hn
      cases hr
      obtain rfl:=hi.val_inv
      have hel:elemD ti.desc=el:=by rw [hd]; rfl
      rw [hel] at he
      cases hx with
      | data hx=>cases hx
      | ptr _ _ _ m b hm hb =>
        refine ⟨.pointer (some ⟨b,i * m.sz + off + n.toNat * te.size,none⟩), ?_, ?_⟩
        · simp [Instr.indexAt,asIntOf,run_und h,hd,Instr.sureAddr,hn.1,hn.2,run_size he,addr_add]
        · rw [Nat.add_assoc]; exact .ptr id i (off + n.toNat * te.size) m b hm hb
      | ptrX _ _ _ m hm hg a =>
        refine ⟨.pointer (some (a.add (n.toNat * te.size))), ?_,.ptrX id i (off + n.toNat * te.size) m hm hg _⟩
        simp [Instr.indexAt,asIntOf,run_und h,hd,Instr.sureAddr,hn.1,hn.2,run_size he]
    · cases hr
  · rename_i len el id i kk off k n hd
    split at hr
    · rename_i hn
      cases hr
      obtain rfl:=hi.val_inv
      have hel:elemD ti.desc=el:=by rw [hd]; rfl
      rw [hel] at he
      cases hx with
      | data hx=>cases hx
      | sptr _ _ _ _ m hm =>
        refine ⟨.pointer (some ⟨m.row.2 i,kk * m.row.1 + off + n.toNat * te.size,none⟩), ?_, ?_⟩
        · simp [Instr.indexAt,asIntOf,run_und h,hd,Instr.sureAddr,hn.1,hn.2,run_size he,addr_add]
        · rw [Nat.add_assoc]; exact .sptr id i kk (off + n.toNat * te.size) m hm
      | sptrX _ _ _ _ m hm hg a =>
        refine ⟨.pointer (some (a.add (n.toNat * te.size))), ?_,.sptrX id i kk (off + n.toNat * te.size) m hm hg _⟩
        simp [Instr.indexAt,asIntOf,run_und h,hd,Instr.sureAddr,hn.1,hn.2,run_size he]
    · cases hr
  · rename_i len el l k n hd
    split at hr
    · rename_i hn
      obtain ⟨hn,hlt⟩:=hn
      cases hr
      obtain rfl:=hi.val_inv
      have hel:elemD ti.desc=el:=by rw [hd]; rfl
      rw [hel] at he
      cases hx with
      | data hx=>cases hx
      | iptr _ b off vals hne hq hc hrr =>
        refine ⟨.pointer (some ⟨b,off + n.toNat * te.size,none⟩), ?_,.iptr _ b _ (fun j=>vals (n.toNat * te.size + j)) ?_ hq (fun j y hy=>?_) (fun j y hy=>?_)⟩
        · simp [Instr.indexAt,asIntOf,run_und h,hd,Instr.sureAddr,hn.1,hn.2,run_size he,addr_add]
        · intro hnil; have:=congrArg List.length hnil; simp at this; omega
        · rw [List.getElem?_drop] at hy; rw [← hc _ y hy,Nat.add_assoc]
        · rw [List.getElem?_drop] at hy; exact hrr _ y hy
    · cases hr
  · cases hr
def loadA (ti : TI) (objs : List (Nat × Obj)) (p : AV) : Option AV :=
  match p with
  | .iptr l=>loadCellsA ti l 0
  | .ptr id i off=>match look id objs with
    | some (.row _ _ _ els)=>match els[i]? with
      | some x=>loadCellsA ti x.cells off
      | none=>none
    | some (.grid _ _ _ _ rows)=>match rows[i]? with
      | some r=>loadCellsA ti [.sub id i r.length] off
      | none=>none
    | _=>none
  | .sptr id i k off=>match look id objs with
    | some (.grid _ _ _ _ rows)=>match rows[i]? with
      | some r=>match r[k]? with
        | some x=>loadCellsA ti x.cells off
        | none=>none
      | none=>none
    | _=>none
  | _=>none
theorem sptr_inv {w:World} {e:Env} {id i k off:Nat} {v:Value} (h:Rd w e (.sptr id i k off) v) (hn:∀ m,e.get id=some m→¬ m.gone):∃ m,e.get id=some m∧v = .pointer (some ⟨m.row.2 i,k * m.row.1 + off,none⟩):=by
  cases h with
  | data h=>cases h
  | sptrX _ _ _ _ m hm hg a=>exact absurd hg (hn m hm)
  | sptr _ _ _ _ m hm=>exact ⟨m,hm,rfl⟩
theorem ptr_some {w:World} {e:Env} {id i off:Nat} {v:Value} (h:Rd w e (.ptr id i off) v):∃ a,v = .pointer (some a):=by
  cases h with
  | data h=>cases h
  | ptr _ _ _ m b hm hb=>exact ⟨_,rfl⟩
  | ptrX _ _ _ m hm hg a=>exact ⟨_,rfl⟩
theorem ptr_inv {w:World} {e:Env} {id i off:Nat} {v:Value} (h:Rd w e (.ptr id i off) v) (hn:∀ m,e.get id=some m→¬ m.gone):∃ m b,e.get id=some m∧m.blk=some b∧v = .pointer (some ⟨b,i * m.sz + off,none⟩):=by
  cases h with
  | data h=>cases h
  | ptrX _ _ _ m hm hg a=>exact absurd hg (hn m hm)
  | ptr _ _ _ m b hm hb=>exact ⟨m,b,hm,hb,rfl⟩
theorem run_loadA {st : St} {w : World} {e : Env} {t : TypeId} {ti : TI} (h : TIOk P t ti) (hs : ∀ id o m, look id st.objs = some o → e.get id = some m → ObjOk w e m o) {p r : AV} {vp : Value} (hp : Rd w e p vp) (hr : loadA ti st.objs p = some r) :
    ∃ v,(Instr.loadAt t vp).run P w = .ok v w∧Rd w e r v:=by
  unfold loadA at hr
  split at hr
  · rename_i l
    cases hp with
    | data hp=>cases hp
    | iptr _ b off vals hne hq hc hrr =>
      obtain ⟨v,h1,h2⟩:=run_loadVar_cells (e:=e) h (b:=b) (o:=off) hr (fun j y hy=>⟨_,hc j y hy,.data (hrr j y hy)⟩)
      exact ⟨v,by simpa [Instr.loadAt,Instr.sureAddr] using h1,h2⟩
  · rename_i id i off
    split at hr
    · rename_i dd ty sz els ho
      split at hr
      · rename_i x hx
        obtain ⟨m,b,hm,hb,rfl⟩:=ptr_inv hp fun m hm=>(hs id _ m ho hm).ngone
        have hk:=hs id _ m ho hm
        have hkb:=hk.blk
        simp only [hb] at hkb
        obtain ⟨cur,h1,h2,h3⟩:=hkb
        have hmsz:m.sz=sz:=hk.hsz
        obtain ⟨v,g1,g2⟩:=run_loadVar_cells (e:=e) (w:=w) h (b:=b) (o:=i * m.sz) hr (fun j y hy=>by
          obtain ⟨v,k1,k2,k3⟩:=h3 i x hx j y hy
          exact ⟨v,by rw [cell_of_row w b _ cur ty (0,0) h1,hmsz]; exact k1,k3.rd⟩)
        exact ⟨v,by simpa [Instr.loadAt,Instr.sureAddr] using g1,g2⟩
      · cases hr
    · rename_i ty sz oty n rows ho
      split at hr
      · rename_i r0 hx
        obtain ⟨m,b,hm,hb,rfl⟩:=ptr_inv hp fun m hm=>(hs id _ m ho hm).live.1
        have hk:=(hs id _ m ho hm).live.2
        have hkb:=hk.blk
        simp only [hb] at hkb
        obtain ⟨cur,h1,h2,_,h3⟩:=hkb
        have hmsz:m.sz=1:=hk.hsz
        obtain ⟨cp,h4,h5⟩:=h3 i r0 hx
        obtain ⟨v,g1,g2⟩:=run_loadVar_cells (e:=e) (w:=w) h (b:=b) (o:=i * m.sz) hr (fun j y hy=>by
          cases j with
          | succ j=>simp at hy
          | zero =>
            simp at hy; subst hy
            exact ⟨_,by rw [cell_of_row w b _ cur oty (0,0) h1,hmsz,Nat.mul_one]; exact h5,.sub id i r0.length cp m hm⟩)
        exact ⟨v,by simpa [Instr.loadAt,Instr.sureAddr] using g1,g2⟩
      · cases hr
    · cases hr
  · rename_i id i k off
    split at hr
    · rename_i ty sz oty n rows ho
      split at hr
      · rename_i r0 hr0
        split at hr
        · rename_i x hx
          obtain ⟨m,hm,rfl⟩:=sptr_inv hp fun m hm=>(hs id _ m ho hm).live.1
          have hk:=(hs id _ m ho hm).live.2
          obtain ⟨cur,h1,h2,h3⟩:=hk.rows i r0 hr0
          obtain ⟨v,g1,g2⟩:=run_loadVar_cells (e:=e) (w:=w) h (b:=m.row.2 i) (o:=k * m.row.1) hr (fun j y hy=>by
            obtain ⟨v,k1,k2,k3⟩:=h3 k x hx j y hy
            exact ⟨v,by rw [cell_of_row w _ _ cur ty (0,0) h1,hk.rsz]; exact k1,.data k3⟩)
          exact ⟨v,by simpa [Instr.loadAt,Instr.sureAddr] using g1,g2⟩
        · cases hr
      · cases hr
    · cases hr
  · cases hr
def fieldsD:TypeDesc→Array Field
  | .struct fs=>fs
  | _=>#[]
def fieldAddrA (off size:Nat) (p:AV):Option AV:=
  if size=0 then none else
  match p with
  | .iptr l=>if off < l.length then some (.iptr (l.drop off)) else none
  | .ptr id i o=>some (.ptr id i (o + off))
  | .sptr id i k o=>some (.sptr id i k (o + off))
  | _=>none
theorem run_fieldAddrA {w : World} {e : Env} {t : TypeId} {ti tf : TI} (h : TIOk P t ti) {n : Nat} {fs : Array Field} {f : Field} (hd : ti.desc = .struct fs) (hf : fs[n]? = some f) (htf : TIOk P f.type tf) {p r : AV} {vp : Value}
    (hp:Rd w e p vp) (hr:fieldAddrA f.offset tf.size p=some r):∃ v,(Instr.fieldAt t vp n).run P w = .ok v w∧Rd w e r v:=by
  unfold fieldAddrA at hr
  split at hr
  · cases hr
  rename_i hz
  split at hr
  · rename_i l
    split at hr
    · rename_i hlt
      cases hr
      cases hp with
      | data hp=>cases hp
      | iptr _ b off vals hne hq hc hrr =>
        refine ⟨.pointer (some ⟨b,off + f.offset,none⟩), ?_,.iptr _ b _ (fun j=>vals (f.offset + j)) ?_ hq (fun j y hy=>?_) (fun j y hy=>?_)⟩
        · simp [Instr.fieldAt,run_und h,hd,hf,Instr.sureAddr,fieldPlace,run_size htf,hz,addr_add]
        · intro hnil; have:=congrArg List.length hnil; simp at this; omega
        · rw [List.getElem?_drop] at hy; rw [← hc _ y hy,Nat.add_assoc]
        · rw [List.getElem?_drop] at hy; exact hrr _ y hy
    · cases hr
  · rename_i id i o
    cases hr
    cases hp with
    | data hp=>cases hp
    | ptr _ _ _ m b hm hb =>
      refine ⟨.pointer (some ⟨b,i * m.sz + o + f.offset,none⟩), ?_, ?_⟩
      · simp [Instr.fieldAt,run_und h,hd,hf,Instr.sureAddr,fieldPlace,run_size htf,hz,addr_add]
      · rw [Nat.add_assoc]; exact .ptr id i (o + f.offset) m b hm hb
    | ptrX _ _ _ m hm hg a =>
      refine ⟨.pointer (some (a.add f.offset)), ?_,.ptrX id i (o + f.offset) m hm hg _⟩
      simp [Instr.fieldAt,run_und h,hd,hf,Instr.sureAddr,fieldPlace,run_size htf,hz]
  · rename_i id i k o
    cases hr
    cases hp with
    | data hp=>cases hp
    | sptr _ _ _ _ m hm =>
      refine ⟨.pointer (some ⟨m.row.2 i,k * m.row.1 + o + f.offset,none⟩), ?_, ?_⟩
      · simp [Instr.fieldAt,run_und h,hd,hf,Instr.sureAddr,fieldPlace,run_size htf,hz,addr_add]
      · rw [Nat.add_assoc]; exact .sptr id i k (o + f.offset) m hm
    | sptrX _ _ _ _ m hm hg a =>
      refine ⟨.pointer (some (a.add f.offset)), ?_,.sptrX id i k (o + f.offset) m hm hg _⟩
      simp [Instr.fieldAt,run_und h,hd,hf,Instr.sureAddr,fieldPlace,run_size htf,hz]
  · cases hr
def boundA (len:Nat):Option AV→Option Nat
  | none=>some len
  | some (.val (.int _ n))=>if 0≤n then some n.toNat else none
  | _=>none
def lowA:Option AV→Option Nat
  | none=>some 0
  | some (.val (.int _ n))=>if 0≤n then some n.toNat else none
  | _=>none
def sliceA (x : AV) (lo hi : Option AV) : Option AV :=
  match x with
  | .imm l=>match boundA l.length hi,lowA lo with
    | some h,some k=>if k≤h∧h≤l.length then some (.imm ((l.take h).drop k)) else none
    | _,_=>none
  | .own id off len=>match boundA len hi,lowA lo with
    | some h,some k=>if k≤h∧h≤len then (if k=h then some (.imm []) else some (.own id (off + k) (h - k))) else none
    | _,_=>none
  | .val (.slice none 0 0)=>match boundA 0 hi,lowA lo with
    | some h,some k=>if k≤h∧h≤0 then some (.val (.slice none 0 0)) else none
    | _,_=>none
  | .val (.string s)=>match boundA s.size hi,lowA lo with
    | some h,some k=>if k≤h∧h≤s.size then some (.val (.string (s.extract k h))) else none
    | _,_=>none
  | _=>none
def AV.oneV:AV→Bool
  | .val v=>v.oneCell'
  | _=>false
def sliceR (n : Nat) (x : AV) (lo hi : Option AV) : Option AV :=
  match x with
  | .iptr l=>match boundA n hi,lowA lo with
    | some h,some k=>if (k < h∧h≤n∧n=l.length∧n≤maxLen)∧l.all AV.oneV=true then some (.imm ((l.take h).drop k)) else none
    | _,_=>none
  | .ptr id i off=>match boundA n hi,lowA lo with
    | some h,some k=>if k≤h∧h≤n then (if k=h then some (.imm []) else some (.arr id i (off + k) (h - k) (n - k))) else none
    | _,_=>none
  | _=>none
def OptRd (w:World) (e:Env):Option AV→Option Value→Prop
  | none,none=>True
  | some x,some v=>Rd w e x v
  | _,_=>False
theorem boundA_cases {w : World} {e : Env} {len : Nat} {hi : Option AV} {vh : Option Value} {h : Nat} (hb : boundA len hi = some h) (hm : OptRd w e hi vh) :
    (vh=none∧h=len)∨∃ k n,vh=some (.int k n)∧0≤n∧n.toNat=h:=by
  cases hi with
  | none =>
    cases vh with
    | some v=>simp [OptRd] at hm
    | none=>simp only [boundA,Option.some.injEq] at hb; exact .inl ⟨rfl,hb.symm⟩
  | some x =>
    cases vh with
    | none=>simp [OptRd] at hm
    | some v =>
      simp only [OptRd] at hm
      simp only [boundA] at hb
      split at hb
      · rename_i heq; cases heq
      · rename_i k n heq
        cases heq
        split at hb
        · rename_i hn
          cases hb
          obtain rfl:=hm.val_inv
          exact .inr ⟨k,n,rfl,hn,rfl⟩
        · cases hb
      · cases hb
theorem lowA_cases {w:World} {e:Env} {lo:Option AV} {vl:Option Value} {h:Nat} (hb:lowA lo=some h) (hm:OptRd w e lo vl) :
    (vl=none∧h=0)∨∃ k n,vl=some (.int k n)∧0≤n∧n.toNat=h:=
  boundA_cases (len:=0) (hi:=lo) (by cases lo <;> simpa [boundA,lowA] using hb) hm
theorem boundsA_run {P:Program} {w:World} {e:Env} {len:Nat} {lo hi:Option AV} {vl vh:Option Value} {k h cap:Nat} (hb:boundA len hi=some h) (hl:lowA lo=some k) (hm:OptRd w e hi vh) (hn:OptRd w e lo vl)
    (h1:k≤h) (h2:h≤cap) (b:Bool):(Instr.sliceBounds b len cap vl vh none).run P w = .ok (k,h,cap) w:=by
  have hle:∀ (n:Int) (k c:Nat),0≤n→n.toNat=k→k≤c→n≤(c:Int):=fun n k c a b d=>by omega
  rcases boundA_cases hb hm with ⟨rfl,rfl⟩ | ⟨kh,nh,rfl,hnh,rfl⟩ <;> rcases lowA_cases hl hn with ⟨rfl,rfl⟩ | ⟨kl,nl,rfl,hnl,rfl⟩
  · simp [Instr.sliceBounds]
  · simp [Instr.sliceBounds,run_sliceBound w kl nl _ _ hnl (hle nl _ _ hnl rfl h1)]
  · simp [Instr.sliceBounds,run_sliceBound w kh nh _ _ hnh (hle nh _ _ hnh rfl h2)]
  · simp [Instr.sliceBounds,run_sliceBound w kh nh _ _ hnh (hle nh _ _ hnh rfl h2),run_sliceBound w kl nl _ _ hnl (hle nl _ _ hnl rfl h1)]
theorem run_sliceA {w : World} {e : Env} {t : TypeId} {ti te : TI} (h : TIOk P t ti) (hdesc : (∃ el, ti.desc = .slice el) ∨ ti.desc = .string) (he : ∀ el, ti.desc = .slice el → TIOk P el te) {x r : AV} {lo hi : Option AV} {vx : Value} {vl vh : Option Value}
    (hx:Rd w e x vx) (hl:OptRd w e lo vl) (hh:OptRd w e hi vh)
    (hsz:∀ id off len m,x = .own id off len→e.get id=some m→m.sz=te.size) (hszi:∀ l y,x = .imm l→l[0]?=some y→y.cells.length=te.size)
    (hr:sliceA x lo hi=some r) (hk:match x with | .val (.string _)=>ti.desc = .string | _=>∃ el,ti.desc = .slice el):∃ v,(Instr.sliceAt t vx vl vh none).run P w = .ok v w∧Rd w e r v:=by
  have hat:∀ v0,(Instr.sliceAt t v0 vl vh none).run P w=(Instr.slice t v0 vl vh none).run P w:=by
    intro v0
    rcases hdesc with ⟨el,hd⟩ | hd <;> simp [Instr.sliceAt,run_und h,hd]
  rw [hat]
  have hslice:∀ (el:TypeId) (a:Option Addr) (len cap k hh' : Nat),ti.desc = .slice el→boundA len hi=some hh'→lowA lo=some k→k≤hh'→hh'≤cap →
      (Instr.slice t (.slice a len cap) vl vh none).run P w = .ok (.slice (if cap=k then a else a.map (·.add (k * te.size))) (hh' - k) (cap - k)) w:=by
    intro el a len cap k hh' hd hb hlo h1 h2
    have e1:=boundsA_run (P:=P) hb hlo hh hl h1 h2 true
    have e3:=run_size (he el hd) w
    simp only [Instr.slice,Sem.run_bind,run_und h,Result.andThen_ok,hd,Sem.run_pure,e1,e3]
  unfold sliceA at hr
  split at hr
  · rename_i l
    obtain ⟨el,hd⟩:=hk
    split at hr
    · rename_i h' k hb hlo
      split at hr
      · rename_i hle
        cases hr
        cases hx with
        | data hx =>
          cases hx with
          | imm0 a cap =>
            simp at hle
            obtain ⟨h1,rfl⟩:=hle
            have:k=0:=by omega
            subst this
            refine ⟨_,hslice el a 0 cap 0 0 hd (by simpa using hb) hlo (Nat.le_refl _) (Nat.zero_le _), ?_⟩
            exact .data (by simpa using RdD.imm0 (w:=w) (q:=e.q) _ cap)
          | imm _ b off cap sz vals hne hz hq hlen hcap hsz' hc hrr =>
            refine ⟨_,hslice el _ l.length cap k h' hd hb hlo hle.1 (by omega), ?_⟩
            by_cases hkh:k=h'
            · subst hkh
              have hz0:(l.take k).drop k=[]:=List.eq_nil_of_length_eq_zero (by simp)
              rw [hz0,Nat.sub_self]
              exact .data (.imm0 _ _)
            · rw [if_neg (by omega)]
              obtain ⟨y0,ys,rfl⟩:=List.exists_cons_of_ne_nil hne
              have hsz0:sz=te.size:=by rw [← hszi _ y0 rfl (by simp),hsz' y0 (by simp)]
              subst hsz0
              simp only [Option.map_some,addr_add]
              have hlen' : (((y0 :: ys).take h').drop k).length=h' - k:=by
                rw [List.length_drop,List.length_take,Nat.min_eq_left hle.2]
              have hget:∀ i x,(((y0 :: ys).take h').drop k)[i]?=some x→(y0 :: ys)[k + i]?=some x:=by
                intro i x hx
                rw [List.getElem?_drop,List.getElem?_take] at hx
                split at hx
                · exact hx
                · cases hx
              have:=RdD.imm (w:=w) (q:=e.q) (((y0 :: ys).take h').drop k) b (off + k * te.size) (cap - k) te.size (fun i j=>vals (k + i) j) (by
                  intro hnil; rw [hnil] at hlen'; simp at hlen'; omega) hz hq (by rw [hlen']; omega) (by rw [hlen']; omega)
                (fun x hx=>hsz' x (List.mem_of_mem_take (List.mem_of_mem_drop hx)))
                (fun i x hx j y hy=>by
                  have:=hc (k + i) x (hget i x hx) j y hy
                  rw [show off + k * te.size + i * te.size + j=off + (k + i) * te.size + j from by rw [Nat.add_mul]; omega]
                  exact this)
                (fun i x hx j y hy=>hrr (k + i) x (hget i x hx) j y hy)
              rw [hlen'] at this
              exact .data this
      · cases hr
    · cases hr
  · rename_i id off len
    obtain ⟨el,hd⟩:=hk
    split at hr
    · rename_i h' k hb hlo
      split at hr
      · rename_i hle
        cases hx with
        | data hx=>cases hx
        | own0 _ m hm hbk a =>
          have h0:h'=0∧k=0:=by omega
          obtain ⟨rfl,rfl⟩:=h0
          rw [if_pos rfl] at hr
          cases hr
          refine ⟨_,hslice el a 0 0 0 0 hd hb hlo (Nat.le_refl _) (Nat.le_refl _), ?_⟩
          exact .data (.imm0 _ _)
        | ownX _ _ _ m hm hg a cap ha hc =>
          refine ⟨_,hslice el a len cap k h' hd hb hlo hle.1 (by omega), ?_⟩
          by_cases hkh:k=h'
          · subst hkh
            rw [if_pos rfl] at hr
            cases hr
            rw [Nat.sub_self]
            exact .data (.imm0 _ _)
          · rw [if_neg hkh] at hr
            cases hr
            have hs0:=ha (by omega)
            cases a with
            | none=>cases hs0
            | some a =>
              refine .ownX id (off + k) (h' - k) m hm hg _ (cap - k) (fun _=>?_) (by omega)
              split <;> rfl
        | own _ _ _ m b hm hbk hc =>
          refine ⟨_,hslice el _ len (m.cap - off) k h' hd hb hlo hle.1 (by omega), ?_⟩
          by_cases hkh:k=h'
          · subst hkh
            rw [if_pos rfl] at hr
            cases hr
            rw [Nat.sub_self]
            exact .data (.imm0 _ _)
          · rw [if_neg hkh] at hr
            cases hr
            rw [if_neg (by omega)]
            have hs:=hsz id off len m rfl hm
            simp only [Option.map_some,addr_add]
            have:=Rd.own (w:=w) (e:=e) id (off + k) (h' - k) m b hm hbk (by omega)
            rw [show off * m.sz + k * te.size=(off + k) * m.sz from by rw [hs,Nat.add_mul],show m.cap - off - k=m.cap - (off + k) from by omega]
            exact this
      · cases hr
    · cases hr
  · obtain ⟨el,hd⟩:=hk
    split at hr
    · rename_i h' k hb hlo
      split at hr
      · rename_i hle
        cases hr
        obtain rfl:=hx.val_inv
        have h0:h'=0∧k=0:=by omega
        obtain ⟨rfl,rfl⟩:=h0
        exact ⟨_,hslice el none 0 0 0 0 hd hb hlo (Nat.le_refl _) (Nat.le_refl _),.data (by simpa using RdD.val _)⟩
      · cases hr
    · cases hr
  · rename_i s
    split at hr
    · rename_i h' k hb hlo
      split at hr
      · rename_i hle
        cases hr
        obtain rfl:=hx.val_inv
        have e1:=boundsA_run (P:=P) hb hlo hh hl hle.1 hle.2 false
        refine ⟨.string (s.extract k h'), ?_,.data (.val _)⟩
        have hk' : ti.desc = .string:=hk
        simp only [Instr.slice,Sem.run_bind,run_und h,Result.andThen_ok,hk',Option.isSome_none,Bool.false_eq_true,if_false,Sem.run_pure,e1]
      · cases hr
    · cases hr
  · cases hr
theorem run_sliceR {w : World} {e : Env} {t : TypeId} {ti te : TI} (h : TIOk P t ti) {n : Nat} {el : TypeId} (hd : ti.desc = .array n el) (he : TIOk P el te) (h1 : te.size = 1) {x r : AV} {lo hi : Option AV} {vx : Value} {vl vh : Option Value}
    (hx:Rd w e x vx) (hl:OptRd w e lo vl) (hh:OptRd w e hi vh) (hr:sliceR n x lo hi=some r):∃ v,(Instr.sliceAt t vx vl vh none).run P w = .ok v w∧Rd w e r v:=by
  unfold sliceR at hr
  split at hr
  · rename_i l
    split at hr
    · rename_i h' k hb hlo
      split at hr
      · rename_i hle
        obtain ⟨⟨hkh,hhn,hnl,hmx⟩,hall⟩:=hle
        cases hr
        have e1:=boundsA_run (P:=P) hb hlo hh hl (Nat.le_of_lt hkh) hhn false
        have e3:=run_size he w
        have hlen:((l.take h').drop k).length=h' - k:=by rw [List.length_drop,List.length_take]; omega
        cases hx with
        | data hx=>cases hx
        | iptr _ b off vals hne hq hc hrr =>
          refine ⟨.slice (some ⟨b,off + k,none⟩) ((l.take h').drop k).length (n - k), ?_,.data (.imm _ b (off + k) (n - k) 1 (fun i _=>vals (k + i)) (fun e=>by rw [e] at hlen; simp at hlen; omega) (by decide) hq (by rw [hlen]; omega) (by rw [hlen]; omega) (fun y hy=>?_) (fun i y hy j z hz=>?_) (fun i y hy j z hz=>?_))⟩
          · simp only [Instr.sliceAt,Sem.run_bind,run_und h,Result.andThen_ok,hd,Instr.sureAddr,Sem.run_pure,e1,e3]
            rw [if_neg (by omega),h1,Nat.mul_one,hlen,addr_add]
          · have:=List.all_eq_true.1 hall y (List.mem_of_mem_take (List.mem_of_mem_drop hy))
            cases y <;> simp_all [AV.oneV,AV.cells]
          · have hy1:l[k + i]?=some y:=by
              rw [List.getElem?_drop,List.getElem?_take] at hy
              split at hy
              · exact hy
              · cases hy
            have ho:=List.all_eq_true.1 hall y (List.mem_of_getElem? hy1)
            cases y with
            | val v =>
              simp only [AV.cells] at hz
              cases j with
              | succ j=>simp at hz
              | zero =>
                have hv:=(hrr _ _ hy1)
                have hcc:=hc _ _ hy1
                have e5:vals (k + i)=v:=by cases hv; rfl
                refine ⟨?_,by rw [e5]; exact ho⟩
                rw [Nat.mul_one,Nat.add_zero,Nat.add_assoc]; exact hcc
            | _=>simp [AV.oneV] at ho
          · have hy1:l[k + i]?=some y:=by
              rw [List.getElem?_drop,List.getElem?_take] at hy
              split at hy
              · exact hy
              · cases hy
            have ho:=List.all_eq_true.1 hall y (List.mem_of_getElem? hy1)
            cases y with
            | val v =>
              simp only [AV.cells] at hz
              cases j with
              | succ j=>simp at hz
              | zero=>simp at hz; subst hz; exact hrr _ _ hy1
            | _=>simp [AV.oneV] at ho
      · cases hr
    · cases hr
  · rename_i id i off
    split at hr
    · rename_i h' k hb hlo
      split at hr
      · rename_i hle
        have e1:=boundsA_run (P:=P) hb hlo hh hl hle.1 hle.2 false
        have e3:=run_size he w
        have run:∀ a:Addr,(Instr.sliceAt t (.pointer (some a)) vl vh none).run P w = .ok (.slice (some (if n=k then a else a.add (k * te.size))) (h' - k) (n - k)) w:=by
          intro a
          simp only [Instr.sliceAt,Sem.run_bind,run_und h,Result.andThen_ok,hd,Instr.sureAddr,Sem.run_pure,e1,e3]
        have hemp:k=h'→r = .imm []:=fun hk=>by rw [if_pos hk] at hr; cases hr; rfl
        have hful:k≠h'→r = .arr id i (off + k) (h' - k) (n - k):=fun hk=>by rw [if_neg hk] at hr; cases hr; rfl
        cases hx with
        | data hx=>cases hx
        | ptr _ _ _ m b hm hbk =>
          refine ⟨_,run _, ?_⟩
          by_cases hk:k=h'
          · rw [hemp hk,← hk,Nat.sub_self]; exact .data (.imm0 _ _)
          · rw [hful hk,if_neg (by omega),addr_add,h1,Nat.mul_one,Nat.add_assoc]
            exact .arr id i (off + k) (h' - k) (n - k) m b hm hbk
        | ptrX _ _ _ m hm hg a =>
          refine ⟨_,run _, ?_⟩
          by_cases hk:k=h'
          · rw [hemp hk,← hk,Nat.sub_self]; exact .data (.imm0 _ _)
          · rw [hful hk]; exact .arrX id i (off + k) (h' - k) (n - k) m hm hg _
      · cases hr
    · cases hr
  · cases hr
end
end Go.Sim
namespace Go.Sim
open Go.RowKit
section
variable {P:Program} {Γ:TypeId→Option TI}
theorem opaqueI (g:IntKind→Int→Int→Int):∃ f:IntKind→Int→Int→Int,∀ k a b,f k a b=g k a b:=⟨g,fun _ _ _=>rfl⟩
noncomputable def andI:IntKind→Int→Int→Int:=Classical.choose (opaqueI fun k a b=>k.wrap ((BitVec.ofInt k.bits a &&& BitVec.ofInt k.bits b).toNat))
theorem andI_eq (k:IntKind) (a b:Int):andI k a b=k.wrap ((BitVec.ofInt k.bits a &&& BitVec.ofInt k.bits b).toNat):=Classical.choose_spec (opaqueI fun k a b=>k.wrap ((BitVec.ofInt k.bits a &&& BitVec.ofInt k.bits b).toNat)) k a b
noncomputable def orI:IntKind→Int→Int→Int:=Classical.choose (opaqueI fun k a b=>k.wrap ((BitVec.ofInt k.bits a ||| BitVec.ofInt k.bits b).toNat))
theorem orI_eq (k:IntKind) (a b:Int):orI k a b=k.wrap ((BitVec.ofInt k.bits a ||| BitVec.ofInt k.bits b).toNat):=Classical.choose_spec (opaqueI fun k a b=>k.wrap ((BitVec.ofInt k.bits a ||| BitVec.ofInt k.bits b).toNat)) k a b
noncomputable def xorI:IntKind→Int→Int→Int:=Classical.choose (opaqueI fun k a b=>k.wrap ((BitVec.ofInt k.bits a ^^^ BitVec.ofInt k.bits b).toNat))
theorem xorI_eq (k:IntKind) (a b:Int):xorI k a b=k.wrap ((BitVec.ofInt k.bits a ^^^ BitVec.ofInt k.bits b).toNat):=Classical.choose_spec (opaqueI fun k a b=>k.wrap ((BitVec.ofInt k.bits a ^^^ BitVec.ofInt k.bits b).toNat)) k a b
noncomputable def shrI:IntKind→Int→Int→Int:=Classical.choose (opaqueI fun k a b=>a.fdiv (2 ^ (min b.toNat k.bits)))
theorem shrI_eq (k:IntKind) (a b:Int):shrI k a b=a.fdiv (2 ^ (min b.toNat k.bits)):=Classical.choose_spec (opaqueI fun k a b=>a.fdiv (2 ^ (min b.toNat k.bits))) k a b
noncomputable def shlI:IntKind→Int→Int→Int:=Classical.choose (opaqueI fun k a b=>k.wrap (a * 2 ^ (min b.toNat k.bits)))
theorem shlI_eq (k:IntKind) (a b:Int):shlI k a b=k.wrap (a * 2 ^ (min b.toNat k.bits)):=Classical.choose_spec (opaqueI fun k a b=>k.wrap (a * 2 ^ (min b.toNat k.bits))) k a b
noncomputable def mulI:IntKind→Int→Int→Int:=Classical.choose (opaqueI fun k a b=>k.wrap (a * b))
theorem mulI_eq (k:IntKind) (a b:Int):mulI k a b=k.wrap (a * b):=Classical.choose_spec (opaqueI fun k a b=>k.wrap (a * b)) k a b
noncomputable def intBin (op:BinOp) (k:IntKind) (a:Int) (k' : IntKind) (b:Int):Option Value:=
  match op with
  | .shl=>if b < 0 then none else some (.int k (shlI k a b))
  | .shr=>if b < 0 then none else some (.int k (shrI k a b))
  | op=>if k≠k' then none else match op with
    | .add=>some (.int k (k.wrap (a + b)))
    | .sub=>some (.int k (k.wrap (a - b)))
    | .mul=>some (.int k (mulI k a b))
    | .quo=>if b=0 then none else some (.int k (k.wrap (a.tdiv b)))
    | .rem=>if b=0 then none else some (.int k (a.tmod b))
    | .and=>some (.int k (andI k a b))
    | .or=>some (.int k (orI k a b))
    | .xor=>some (.int k (xorI k a b))
    | .eql=>some (.bool (a == b))
    | .neq=>some (.bool (a != b))
    | .lss=>some (.bool (a < b))
    | .leq=>some (.bool (a≤b))
    | .gtr=>some (.bool (a > b))
    | .geq=>some (.bool (a ≥ b))
    | _=>none
theorem run_eqGuard_int (op:BinOp) (t:TypeId) (x y:Operand) (k k' : IntKind) (a b:Int) (w:World):(eqGuard op t x y (.int k a) (.int k' b)).run P w = .ok () w:=by
  unfold eqGuard; split <;> simp
theorem run_eqGuard_bool (op:BinOp) (t:TypeId) (x y:Operand) (a b:Bool) (w:World):(eqGuard op t x y (.bool a) (.bool b)).run P w = .ok () w:=by
  unfold eqGuard; split <;> simp
theorem run_eqGuard_string (op:BinOp) (t:TypeId) (x y:Operand) (a b:ByteArray) (w:World):(eqGuard op t x y (.string a) (.string b)).run P w = .ok () w:=by
  unfold eqGuard; split <;> simp
theorem run_intBin {op:BinOp} {k k' : IntKind} {a b:Int} {v:Value} (h:intBin op k a k' b=some v) (t:TypeId) (w:World):(binOp op t (.int k a) (.int k' b)).run P w = .ok v w:=by
  cases op <;> simp only [intBin] at h <;> (repeat' split at h) <;>
    first
      | (have hb:¬ b < 0:=by assumption
         cases h; simp [binOp,Op.shift,hb,shlI_eq,shrI_eq])
      | (simp_all [binOp,Op.intArith,Op.intDiv,Op.intBits,Op.intCmp,andI_eq,orI_eq,xorI_eq,mulI_eq])
def strBin (op:BinOp) (a b:ByteArray):Option Value:=
  match op with
  | .add=>if a.size + b.size≤maxLen then some (.string (a ++ b)) else none
  | .eql=>some (.bool (a.toList == b.toList))
  | .neq=>some (.bool (!(a.toList == b.toList)))
  | .lss=>some (.bool (Op.bytesLess a.toList b.toList))
  | .leq=>some (.bool (Op.bytesLess a.toList b.toList || a.toList == b.toList))
  | .gtr=>some (.bool (!(Op.bytesLess a.toList b.toList || a.toList == b.toList)))
  | .geq=>some (.bool (!Op.bytesLess a.toList b.toList))
  | _=>none
theorem run_strBin {op:BinOp} {a b:ByteArray} {v:Value} (h:strBin op a b=some v) (t:TypeId) (w:World):(binOp op t (.string a) (.string b)).run P w = .ok v w:=by
  cases op <;> simp only [strBin] at h <;> first
    | cases h; done
    | (split at h
       · rename_i hle
         cases h
         have:¬ (((a.size + b.size:Nat):Int) > IntKind.i64.max):=by
           have:IntKind.i64.max=9223372036854775807:=by decide
           rw [this]; unfold maxLen at hle; omega
         simp only [binOp,Op.stringOp]
         rw [if_neg this]; rfl
       · cases h)
    | (cases h; simp [binOp,Op.stringOp])
def AV.vals:List AV→Option (List Value)
  | []=>some []
  | .val v :: r=>(AV.vals r).map (v :: ·)
  | _=>none
theorem AV.vals_rd {w : World} {e : Env} : ∀ {l : List AV} {us : List Value} {vs : List Value}, AV.vals l = some us → vs.length = l.length →
    (∀ (i:Nat) (x:AV) (v:Value),l[i]?=some x→vs[i]?=some v→Rd w e x v)→vs=us
  | [],us,vs,h,hl,_=>by
    cases h; exact List.eq_nil_of_length_eq_zero (by simpa using hl)
  | x :: r, us, vs, h, hl, hr => by
    cases x with
    | val v =>
      simp only [AV.vals,Option.map_eq_some_iff] at h
      obtain ⟨us',hu,rfl⟩:=h
      cases vs with
      | nil=>simp at hl
      | cons v' vs' =>
        have h0:=hr 0 _ v' rfl rfl
        obtain rfl:=h0.val_inv
        rw [AV.vals_rd (vs:=vs') hu (by simpa using hl) (fun i x u hx hu=>hr (i + 1) x u (by simpa using hx) (by simpa using hu))]
    | _=>simp [AV.vals] at h
theorem eqIn_slice {d:Nat} {t el:TypeId} {w:World} (h:P.underlying t=some (.slice el)) (a:Option Addr) (n c n' c' : Nat):(Op.equalIn (d + 1) t (.slice a n c) (.slice none n' c')).run P w = .ok a.isNone w:=by
  cases a <;> simp [Op.equalIn,run_underlying h]
theorem eqIn_func {d:Nat} {t:TypeId} {ps rs:Array TypeId} {v:Bool} {w:World} (h:P.underlying t=some (.func ps rs v)) (f:Fn) (a b:Array Value):(Op.equalIn (d + 1) t (.func f a b) .nilFunc).run P w = .ok false w:=by
  simp [Op.equalIn,run_underlying h]
theorem eqIn_func_nil {d:Nat} {t:TypeId} {ps rs:Array TypeId} {v:Bool} {w:World} (h:P.underlying t=some (.func ps rs v)):(Op.equalIn (d + 1) t .nilFunc .nilFunc).run P w = .ok true w:=by
  simp [Op.equalIn,run_underlying h]
theorem eqIn_ptr {d:Nat} {t el:TypeId} {w:World} (h:P.underlying t=some (.pointer el)) (a:Option Addr):(Op.equalIn (d + 1) t (.pointer a) (.pointer none)).run P w = .ok a.isNone w:=by
  cases a <;> simp [Op.equalIn,run_underlying h]
theorem eqIn_map {d:Nat} {t k el:TypeId} {w:World} (h:P.underlying t=some (.map k el)) (a:Option Nat):(Op.equalIn (d + 1) t (.map a) (.map none)).run P w = .ok a.isNone w:=by
  cases a <;> simp [Op.equalIn,run_underlying h]
theorem eqIn_iface {d:Nat} {t u:TypeId} {ms} {x:Value} {w:World} (h:P.underlying t=some (.interface ms)):(Op.equalIn (d + 1) t (.iface u x) .nilIface).run P w = .ok false w:=by
  simp [Op.equalIn,run_underlying h]
theorem eqIn_iface_nil {d:Nat} {t:TypeId} {ms} {w:World} (h:P.underlying t=some (.interface ms)):(Op.equalIn (d + 1) t .nilIface .nilIface).run P w = .ok true w:=by
  simp [Op.equalIn,run_underlying h]
inductive NilKind (P:Program) (t:TypeId):Value→Value→Bool→Prop
  | slice (el:TypeId) (h:P.underlying t=some (.slice el)) (a:Option Addr) (n c n' c' : Nat):NilKind P t (.slice a n c) (.slice none n' c') a.isNone
  | func (ps rs:Array TypeId) (v:Bool) (h:P.underlying t=some (.func ps rs v)) (f:Fn) (a b:Array Value):NilKind P t (.func f a b) .nilFunc false
  | funcNil (ps rs:Array TypeId) (v:Bool) (h:P.underlying t=some (.func ps rs v)):NilKind P t .nilFunc .nilFunc true
  | ptr (el:TypeId) (h:P.underlying t=some (.pointer el)) (a:Option Addr):NilKind P t (.pointer a) (.pointer none) a.isNone
  | map (k el:TypeId) (h:P.underlying t=some (.map k el)) (a:Option Nat):NilKind P t (.map a) (.map none) a.isNone
  | iface {ms} (h:P.underlying t=some (.interface ms)) (u:TypeId) (x:Value):NilKind P t (.iface u x) .nilIface false
theorem NilKind.eql {t:TypeId} {x y:Value} {r:Bool} (h:NilKind P t x y r) (w:World):(binOp .eql t x y).run P w = .ok (.bool r) w∧(binOp .neq t x y).run P w = .ok (.bool (!r)) w∧∀ op o1 o2,(eqGuard op t o1 o2 x y).run P w = .ok () w:=by
  have key:∀ (q:Sem Bool),q.run P w = .ok r w→(do pure (Value.bool (← q)):Sem Value).run P w = .ok (.bool r) w∧(do pure (Value.bool (!(← q))):Sem Value).run P w = .ok (.bool (!r)) w:=by
    intro q hq; simp [hq]
  cases h with
  | slice el h a n c n' c'=>exact ⟨(key _ (eqIn_slice (d:=9999) h a n c n' c')).1,(key _ (eqIn_slice (d:=9999) h a n c n' c')).2,fun op o1 o2=>by unfold eqGuard; split <;> simp⟩
  | func ps rs v h f a b=>exact ⟨(key _ (eqIn_func (d:=9999) h f a b)).1,(key _ (eqIn_func (d:=9999) h f a b)).2,fun op o1 o2=>by unfold eqGuard; split <;> simp⟩
  | funcNil ps rs v h=>exact ⟨(key _ (eqIn_func_nil (d:=9999) h)).1,(key _ (eqIn_func_nil (d:=9999) h)).2,fun op o1 o2=>by unfold eqGuard; split <;> simp⟩
  | ptr el h a=>exact ⟨(key _ (eqIn_ptr (d:=9999) h a)).1,(key _ (eqIn_ptr (d:=9999) h a)).2,fun op o1 o2=>by unfold eqGuard; split <;> simp⟩
  | map k el h a=>exact ⟨(key _ (eqIn_map (d:=9999) h a)).1,(key _ (eqIn_map (d:=9999) h a)).2,fun op o1 o2=>by unfold eqGuard; split <;> simp⟩
  | iface h u x=>exact ⟨(key _ (eqIn_iface (d:=9999) h)).1,(key _ (eqIn_iface (d:=9999) h)).2,fun op o1 o2=>by unfold eqGuard; split <;> first | (simp; done) | (simp; split <;> simp)⟩
def nilQ (d : TypeDesc) (x y : AV) : Option Bool :=
  match d,y with
  | .slice _,.val (.slice none _ _)=>(match x with
    | .val (.slice none _ _)=>some true
    | .own _ _ (_ + 1)=>some false
    | .imm (_ :: _)=>some false
    | _=>none)
  | .func _ _ _,.val .nilFunc=>(match x with
    | .val .nilFunc=>some true
    | .val (.func _ _ _)=>some false
    | .clo _ _=>some false
    | .mth _ _=>some false
    | _=>none)
  | .pointer _,.val (.pointer none)=>(match x with
    | .val (.pointer none)=>some true
    | .ptr _ _ _=>some false
    | .iptr _=>some false
    | _=>none)
  | .map _ _,.val (.map none)=>(match x with
    | .val (.map none)=>some true
    | .map _=>some false
    | _=>none)
  | .interface _,.val .nilIface=>(match x with
    | .val (.iface _ _)=>some false
    | _=>none)
  | _,_=>none
theorem nilQ_kind {t : TypeId} {ti : TI} (h : TIOk P t ti) {w : World} {e : Env} {x y : AV} {vx vy : Value} {r : Bool} (hx : Rd w e x vx) (hy : Rd w e y vy) (hr : nilQ ti.desc x y = some r) : NilKind P t vx vy r := by
  have hu:=h.und
  unfold nilQ at hr
  split at hr
  · rename_i d el n' c' hd
    rw [hd] at hu
    obtain rfl:=hy.val_inv
    split at hr
    · cases hr; obtain rfl:=hx.val_inv; exact .slice el hu none _ _ _ _
    · cases hr
      cases hx with
      | data hx=>cases hx
      | own _ _ _ m b hm hb hc=>exact .slice el hu (some _) _ _ _ _
      | ownX _ _ _ m hm hg a cap ha hc =>
        cases a with
        | none=>exact absurd (ha (by omega)) (by simp)
        | some a=>exact .slice el hu (some _) _ _ _ _
    · cases hr
      cases hx with
      | data hx=>cases hx with | imm _ b off cap sz vals hne hz hq hlen hcap hsz' hc hrr=>exact .slice el hu (some _) _ _ _ _
    · cases hr
  · rename_i d ps rs v hd
    rw [hd] at hu
    obtain rfl:=hy.val_inv
    split at hr
    · cases hr; obtain rfl:=hx.val_inv; exact .funcNil ps rs v hu
    · cases hr; obtain rfl:=hx.val_inv; exact .func ps rs v hu _ _ _
    · cases hr; obtain ⟨vs,rfl,_,_⟩:=hx.clo_inv; exact .func ps rs v hu _ _ _
    · cases hr; obtain ⟨vs,rfl,_,_⟩:=hx.mth_inv; exact .func ps rs v hu _ _ _
    · cases hr
  · rename_i d el hd
    rw [hd] at hu
    obtain rfl:=hy.val_inv
    split at hr
    · cases hr; obtain rfl:=hx.val_inv; exact .ptr el hu none
    · cases hr; obtain ⟨a,rfl⟩:=ptr_some hx; exact .ptr el hu (some _)
    · cases hr
      cases hx with
      | data hx=>cases hx
      | iptr _ b off vals hne hq hc hr=>exact .ptr el hu (some _)
    · cases hr
  · rename_i d k el hd
    rw [hd] at hu
    obtain rfl:=hy.val_inv
    split at hr
    · cases hr; obtain rfl:=hx.val_inv; exact .map k el hu none
    · cases hr
      cases hx with
      | data hx=>cases hx
      | map _ m b hm hb=>exact .map k el hu (some _)
      | mapX=>exact .map k el hu (some _)
    · cases hr
  · rename_i d ms hd
    rw [hd] at hu
    obtain rfl:=hy.val_inv
    split at hr
    · cases hr; obtain rfl:=hx.val_inv; exact .iface hu _ _
    · cases hr
  · cases hr
noncomputable def binA (ti:Option TI) (op:BinOp) (x y:AV):Option AV:=
  match x,y with
  | .val (.int k a),.val (.int k' b)=>(intBin op k a k' b).map .val
  | .val (.string a),.val (.string b)=>(strBin op a b).map .val
  | .val (.bool a),.val (.bool b)=>match op,ti with
    | .eql,some ⟨_,_,_,.bool,_,_⟩=>some (.val (.bool (a == b)))
    | .neq,some ⟨_,_,_,.bool,_,_⟩=>some (.val (.bool (!(a == b))))
    | _,_=>none
  | .agg xs,.agg ys=>match op,ti,AV.vals xs,AV.vals ys with
    | .eql,some ti,some us,some vs=>if ti.flat∧us.length=ti.size then (eqVals us vs).map fun r=>.val (.bool r) else none
    | .neq,some ti,some us,some vs=>if ti.flat∧us.length=ti.size then (eqVals us vs).map fun r=>.val (.bool (!r)) else none
    | _,_,_,_=>none
  | x,y=>match op,ti with
    | .eql,some ti=>(nilQ ti.desc x y).map fun r=>.val (.bool r)
    | .neq,some ti=>(nilQ ti.desc x y).map fun r=>.val (.bool (!r))
    | _,_=>none
theorem run_binA {t : TypeId} {ti : Option TI} (h : ∀ i, ti = some i → TIOk P t i) {w : World} {e : Env} {op : BinOp} {x y r : AV} {vx vy : Value} (hx : Rd w e x vx) (hy : Rd w e y vy) (hr : binA ti op x y = some r) (o1 o2 : Operand) :
    ∃ v,(do eqGuard op t o1 o2 vx vy; binOp op t vx vy:Sem Value).run P w = .ok v w∧Rd w e r v:=by
  unfold binA at hr
  split at hr
  · obtain rfl:=hx.val_inv
    obtain rfl:=hy.val_inv
    obtain ⟨v,hv,rfl⟩:=Option.map_eq_some_iff.1 hr
    exact ⟨v,by rw [Sem.run_bind,run_eqGuard_int,Result.andThen_ok,run_intBin hv],.data (.val v)⟩
  · obtain rfl:=hx.val_inv
    obtain rfl:=hy.val_inv
    obtain ⟨v,hv,rfl⟩:=Option.map_eq_some_iff.1 hr
    exact ⟨v,by rw [Sem.run_bind,run_eqGuard_string,Result.andThen_ok,run_strBin hv],.data (.val v)⟩
  · obtain rfl:=hx.val_inv
    obtain rfl:=hy.val_inv
    rename_i a b
    split at hr
    · cases hr
      have hb:P.underlying t=some .bool:=(h _ rfl).und
      refine ⟨.bool (a == b), ?_,.data (.val _)⟩
      rw [Sem.run_bind,run_eqGuard_bool,Result.andThen_ok]
      simp [binOp,Op.equal,Op.maxDepth,run_equalIn_bool' w 9999 t a b hb]
    · cases hr
      have hb:P.underlying t=some .bool:=(h _ rfl).und
      refine ⟨.bool (!(a == b)), ?_,.data (.val _)⟩
      rw [Sem.run_bind,run_eqGuard_bool,Result.andThen_ok]
      simp [binOp,Op.equal,Op.maxDepth,run_equalIn_bool' w 9999 t a b hb]
    · cases hr
  · rename_i xs ys
    obtain ⟨us,rfl,hus,hxr⟩:=hx.agg_inv
    obtain ⟨vs,rfl,hvs,hyr⟩:=hy.agg_inv
    split at hr
    · rename_i ti us' vs' hu' hv'
      split at hr
      · rename_i hfl
        obtain ⟨r',hr',rfl⟩:=Option.map_eq_some_iff.1 hr
        have e1:=AV.vals_rd (vs:=us.toList) hu' (by simpa using hus) (fun i x v hx hv=>hxr i x v hx (by simpa using hv))
        have e2:=AV.vals_rd (vs:=vs.toList) hv' (by simpa using hvs) (fun i x v hx hv=>hyr i x v hx (by simpa using hv))
        have hi:=(h ti rfl)
        obtain ⟨hg,heq⟩:=hi.flat hfl.1
        obtain ⟨k,hk,hks,_⟩:=hi.parts
        have:=heq w us' vs' r' hr' (by rw [hk]; simp [hks,hfl.2])
        refine ⟨.bool r', ?_,.data (.val _)⟩
        have q1:us=us'.toArray:=by rw [← e1]
        have q2:vs=vs'.toArray:=by rw [← e2]
        subst q1; subst q2
        rw [Sem.run_bind,run_eqGuard_agg w _ _ _ _ _ _ hg,Result.andThen_ok,run_eql_struct,this]; rfl
      · cases hr
    · rename_i ti us' vs' hu' hv'
      split at hr
      · rename_i hfl
        obtain ⟨r',hr',rfl⟩:=Option.map_eq_some_iff.1 hr
        have e1:=AV.vals_rd (vs:=us.toList) hu' (by simpa using hus) (fun i x v hx hv=>hxr i x v hx (by simpa using hv))
        have e2:=AV.vals_rd (vs:=vs.toList) hv' (by simpa using hvs) (fun i x v hx hv=>hyr i x v hx (by simpa using hv))
        have hi:=(h ti rfl)
        obtain ⟨hg,heq⟩:=hi.flat hfl.1
        obtain ⟨k,hk,hks,_⟩:=hi.parts
        have:=heq w us' vs' r' hr' (by rw [hk]; simp [hks,hfl.2])
        refine ⟨.bool (!r'), ?_,.data (.val _)⟩
        have q1:us=us'.toArray:=by rw [← e1]
        have q2:vs=vs'.toArray:=by rw [← e2]
        subst q1; subst q2
        rw [Sem.run_bind,run_eqGuard_agg w _ _ _ _ _ _ hg,Result.andThen_ok,run_neq_struct,this]; rfl
      · cases hr
    · cases hr
  · split at hr
    · rename_i ti _ _ _ _ _
      obtain ⟨r',hr',rfl⟩:=Option.map_eq_some_iff.1 hr
      obtain ⟨g1,g2,g3⟩:=(nilQ_kind (h _ rfl) hx hy hr').eql w
      exact ⟨_,by rw [Sem.run_bind,g3,Result.andThen_ok,g1],.data (.val _)⟩
    · rename_i ti _ _ _ _ _
      obtain ⟨r',hr',rfl⟩:=Option.map_eq_some_iff.1 hr
      obtain ⟨g1,g2,g3⟩:=(nilQ_kind (h _ rfl) hx hy hr').eql w
      exact ⟨_,by rw [Sem.run_bind,g3,Result.andThen_ok,g2],.data (.val _)⟩
    · cases hr
def nilIfA (ti:Option TI) (op:BinOp) (x:AV) (o:Operand):Option AV:=
  match op,ti,x,o with
  | .eql,some ⟨_,_,_,.interface _,_,_⟩,.val .nilIface,.const .nilIface=>some (.val (.bool true))
  | .neq,some ⟨_,_,_,.interface _,_,_⟩,.val .nilIface,.const .nilIface=>some (.val (.bool false))
  | _,_,_,_=>none
noncomputable def binB (ti:Option TI) (op:BinOp) (x y:AV) (o:Operand):Option AV:=match binA ti op x y with
  | some r=>some r
  | none=>nilIfA ti op x o
theorem run_binB {t:TypeId} {ti:Option TI} (h:∀ i,ti=some i→TIOk P t i) {w:World} {e:Env} {op:BinOp} {x y r:AV} {a:Act} (o1 o2:Operand) (hx:Rd w e x (a.eval o1)) (hy:Rd w e y (a.eval o2)) (hr:binB ti op x y o2=some r) :
    ∃ v,(do eqGuard op t o1 o2 (a.eval o1) (a.eval o2); binOp op t (a.eval o1) (a.eval o2):Sem Value).run P w = .ok v w∧Rd w e r v:=by
  unfold binB at hr
  split at hr
  · rename_i r' h'
    cases hr
    exact run_binA h hx hy h' o1 o2
  · unfold nilIfA at hr
    split at hr
    · rename_i s b z ms f k
      cases hr
      have hu:=(h _ rfl).und
      obtain hv:=hx.val_inv
      rw [hv]
      refine ⟨.bool true, ?_,.data (.val _)⟩
      have e2:a.eval (.const .nilIface) = .nilIface:=rfl
      have hg:(eqGuard .eql t o1 (.const .nilIface) .nilIface .nilIface).run P w = .ok () w:=by unfold eqGuard; simp
      rw [e2,Sem.run_bind,hg,Result.andThen_ok]
      simp [binOp,Op.equal,Op.maxDepth,eqIn_iface_nil (d:=9999) hu]
    · rename_i s b z ms f k
      cases hr
      have hu:=(h _ rfl).und
      obtain hv:=hx.val_inv
      rw [hv]
      refine ⟨.bool false, ?_,.data (.val _)⟩
      have e2:a.eval (.const .nilIface) = .nilIface:=rfl
      have hg:(eqGuard .neq t o1 (.const .nilIface) .nilIface .nilIface).run P w = .ok () w:=by unfold eqGuard; simp
      rw [e2,Sem.run_bind,hg,Result.andThen_ok]
      simp [binOp,Op.equal,Op.maxDepth,eqIn_iface_nil (d:=9999) hu]
    · cases hr
end
end Go.Sim
namespace Go.Sim
open Go.RowKit
section
variable {P:Program}
/-! ### a part of a struct's value -/
theorem run_partA {t : TypeId} {ti : TI} (h : TIOk P t ti) {w : World} {e : Env} {l : List AV} {vs : Array Value} {off : Nat} {r : AV} (hs : vs.size = l.length)
    (hr:∀ (i:Nat) (x:AV) (u:Value),l[i]?=some x→vs[i]?=some u→Rd w e x u) (hx:loadCellsA ti l off=some r):∃ v,(part t vs off).run P w = .ok v w∧Rd w e r v:=by
  unfold loadCellsA at hx
  simp only [part,Sem.run_bind,run_agg h,Result.andThen_ok]
  cases ha:isAggD ti.desc with
  | false =>
    simp only [ha,Bool.false_eq_true,if_false] at hx ⊢
    have hlt:off < vs.size:=by rw [hs]; exact (List.getElem?_eq_some_iff.1 hx).1
    exact ⟨vs[off],by simp [Array.getElem?_eq_getElem hlt],hr off r _ hx (Array.getElem?_eq_getElem hlt)⟩
  | true =>
    simp only [ha,if_true] at hx ⊢
    split at hx
    · cases hx
      refine ⟨.agg (vs.extract off (off + ti.size)),by simp [run_size h],.agg _ _ (by simp; omega) fun i x u hx hu=>?_⟩
      rw [List.getElem?_take] at hx
      split at hx
      · rw [List.getElem?_drop] at hx
        rw [Array.getElem?_extract] at hu
        split at hu
        · exact hr _ x u hx hu
        · cases hu
      · cases hx
    · cases hx
/-! ### filling cells -/
theorem seg_size (off:Nat):∀ (vs:List Value) (k:Nat) (cs:Array Value),((vs.zipIdx k).foldl (fun (cs:Array Value) (x:Value×Nat)=>cs.setIfInBounds (off + x.2) x.1) cs).size=cs.size
  | [],k,cs=>rfl
  | v :: vs,k,cs=>by rw [List.zipIdx_cons,List.foldl_cons,seg_size off vs (k + 1)]; simp
theorem seg_get (off : Nat) : ∀ (vs : List Value) (k : Nat) (cs : Array Value) (i : Nat), off + k + vs.length ≤ cs.size →
    ((vs.zipIdx k).foldl (fun (cs:Array Value) (x:Value×Nat)=>cs.setIfInBounds (off + x.2) x.1) cs)[i]? =
      if off + k≤i∧i < off + k + vs.length then vs[i - (off + k)]? else cs[i]?
  | [],k,cs,i,_=>by simp; omega
  | v :: vs, k, cs, i, h => by
    rw [List.zipIdx_cons,List.foldl_cons,seg_get off vs (k + 1) _ i (by simp at h ⊢; omega)]
    simp only [List.length_cons] at h ⊢
    by_cases h1:i=off + k
    · subst h1
      rw [if_neg (by omega),if_pos (by omega),Nat.sub_self]
      simp only [Array.getElem?_setIfInBounds,if_true]
      rw [if_pos (by omega)]; rfl
    · by_cases h2:off + (k + 1)≤i∧i < off + (k + 1) + vs.length
      · rw [if_pos h2,if_pos (by omega)]
        rw [show i - (off + k)=(i - (off + (k + 1))) + 1 from by omega]; rfl
      · rw [if_neg h2,if_neg (by omega)]
        simp only [Array.getElem?_setIfInBounds]
        rw [if_neg (by omega)]
def setSeg (l:List AV) (off:Nat) (xs:List AV):List AV:=l.take off ++ (xs ++ l.drop (off + xs.length))
theorem setSeg_get (l:List AV) (off:Nat) (xs:List AV) (h:off + xs.length≤l.length) (i:Nat):(setSeg l off xs)[i]?=if off≤i∧i < off + xs.length then xs[i - off]? else l[i]?:=by
  unfold setSeg
  by_cases h1:i < off
  · rw [List.getElem?_append_left (by simp; omega),List.getElem?_take,if_pos h1,if_neg (by omega)]
  · rw [List.getElem?_append_right (by simp; omega)]
    simp only [List.length_take,Nat.min_eq_left (show off≤l.length by omega)]
    by_cases h2:i < off + xs.length
    · rw [List.getElem?_append_left (by omega),if_pos (by omega)]
    · rw [List.getElem?_append_right (by omega),if_neg (by omega),List.getElem?_drop]
      congr 1; omega
theorem setSeg_length (l:List AV) (off:Nat) (xs:List AV) (h:off + xs.length≤l.length):(setSeg l off xs).length=l.length:=by
  simp [setSeg]; omega
def CellsRd (w:World) (e:Env) (l:List AV) (vs:Array Value):Prop:=vs.size=l.length∧∀ (i:Nat) (x:AV) (v:Value),l[i]?=some x→vs[i]?=some v→Rd w e x v
def AV.one:AV→Bool
  | .val v=>v.oneCell'
  | .dead=>false
  | .agg _=>false
  | .tup _=>false
  | _=>true
def AV.fit:AV→Bool
  | .agg l=>l.all AV.one
  | x=>x.one
theorem Rd.one {w:World} {e:Env} {x:AV} {v:Value} (h:Rd w e x v) (h1:x.one=true):v.oneCell'=true:=by
  cases x with
  | val u=>obtain rfl:=h.val_inv; simpa [AV.one] using h1
  | dead=>simp [AV.one] at h1
  | agg l=>simp [AV.one] at h1
  | tup l=>simp [AV.one] at h1
  | imm l=>cases h with | data h=>cases h <;> rfl
  | own id off len =>
    cases h with
    | data h=>cases h
    | own0=>rfl
    | ownX=>rfl
    | own=>rfl
  | ptr=>obtain ⟨a,rfl⟩:=ptr_some h; rfl
  | iptr =>
    cases h with
    | data h=>cases h
    | iptr=>rfl
  | map =>
    cases h with
    | data h=>cases h
    | map=>rfl
    | mapX=>rfl
  | yld =>
    cases h with
    | data h=>cases h
    | yld=>rfl
    | yldX=>rfl
  | clo=>obtain ⟨vs,rfl,_⟩:=h.clo_inv; rfl
  | mth=>obtain ⟨vs,rfl,_⟩:=h.mth_inv; rfl
  | arr =>
    cases h with
    | data h=>cases h
    | arr=>rfl
    | arrX=>rfl
  | sub =>
    cases h with
    | data h=>cases h
    | sub=>rfl
    | subX=>rfl
  | sptr =>
    cases h with
    | data h=>cases h
    | sptr=>rfl
    | sptrX=>rfl
theorem one_cells {v:Value} (h:v.oneCell'=true):v.cells = #[v]:=by cases v <;> first | rfl | simp [Value.oneCell'] at h
theorem Rd.cellsRd {w:World} {e:Env} {x:AV} {v:Value} (h:Rd w e x v) (hf:x.fit=true):CellsRd w e x.cells v.cells∧∀ (i:Nat) (u:Value),v.cells[i]?=some u→u.oneCell'=true:=by
  by_cases hx:∃ l,x = .agg l
  · obtain ⟨l,rfl⟩:=hx
    obtain ⟨vs,rfl,hs,hr⟩:=h.agg_inv
    refine ⟨⟨hs,hr⟩,fun i u hu=>?_⟩
    simp only [Value.cells] at hu
    have hlt:i < vs.size:=(Array.getElem?_eq_some_iff.1 hu).1
    have hl:l[i]?=some l[i]:=List.getElem?_eq_getElem (by omega)
    refine (hr i _ u hl hu).one ?_
    simp only [AV.fit,List.all_eq_true] at hf
    exact hf _ (List.getElem_mem _)
  · have hc:x.cells=[x]:=by cases x <;> first | rfl | (exfalso; exact hx ⟨_,rfl⟩)
    have h1:x.one=true:=by cases x <;> first | exact hf | (exfalso; exact hx ⟨_,rfl⟩)
    have hv:=h.one h1
    rw [hc,one_cells hv]
    refine ⟨⟨rfl,fun i y u hy hu=>?_⟩,fun i u hu=>?_⟩
    · cases i with
      | zero=>simp at hy hu; subst hy; subst hu; exact h
      | succ i=>simp at hy
    · cases i with
      | zero=>simp at hu; subst hu; exact hv
      | succ i=>simp at hu
/-! ### build: a struct's literal -/
def fillA (place : Nat → Option (Nat × Nat)) (cells : List AV) : List (Nat × AV) → Option (List AV)
  | []=>some cells
  | (i,x) :: rest=>match place i with
    | none=>none
    | some (off,size)=>if x.cells.length=size∧off + size≤cells.length∧x.fit then fillA place (setSeg cells off x.cells) rest else none
theorem fill_one (cs:Array Value) (off:Nat) (v:Value) (hle:off + v.cells.size≤cs.size) : 
    let r:=v.cells.zipIdx.foldl (fun cs (x:Value×Nat)=>cs.setIfInBounds (off + x.2) x.1) cs
    r.size=cs.size∧∀ i,r[i]?=if off≤i∧i < off + v.cells.size then v.cells[i - off]? else cs[i]?:=by
  intro r
  have hr:r=(v.cells.toList.zipIdx 0).foldl (fun (cs:Array Value) (x:Value×Nat)=>cs.setIfInBounds (off + x.2) x.1) cs:=by
    simp only [r]
    rw [← Array.foldl_toList,Array.toList_zipIdx]
  refine ⟨by rw [hr]; exact seg_size _ _ _ _,fun i=>?_⟩
  have:=seg_get off v.cells.toList 0 cs i (by simpa using hle)
  rw [hr,this]
  simp
theorem run_fillA {w : World} {e : Env} (place : Nat → Option (Nat × Nat)) : ∀ (parts : List (Nat × AV)) (vparts : List (Nat × Value)) (cells : List AV) (cs : Array Value) (r : List AV),
    CellsRd w e cells cs→(∀ (i:Nat) (u:Value),cs[i]?=some u→u.oneCell'=true)→vparts.length=parts.length →
    (∀ (i:Nat) (p:Nat×AV) (q:Nat×Value),parts[i]?=some p→vparts[i]?=some q→p.1=q.1∧Rd w e p.2 q.2)→fillA place cells parts=some r →
    ∃ cs',Instr.fill place cs vparts=some cs'∧CellsRd w e r cs'∧(∀ (i:Nat) (u:Value),cs'[i]?=some u→u.oneCell'=true)
  | [],vparts,cells,cs,r,h,h1,hl,hp,hf=>by
    cases hf
    obtain rfl:=List.eq_nil_of_length_eq_zero hl
    exact ⟨cs,rfl,h,h1⟩
  | (i, x) :: rest, vparts, cells, cs, r, h, h1, hl, hp, hf => by
    cases vparts with
    | nil=>simp at hl
    | cons q vrest =>
      obtain ⟨hi,hx⟩:=hp 0 _ q rfl rfl
      obtain ⟨iq,v⟩:=q
      simp only at hi hx
      subst hi
      simp only [fillA] at hf
      split at hf
      · cases hf
      rename_i off size hpl
      split at hf
      · rename_i hc
        obtain ⟨hc1,hc2,hc3⟩:=hc
        obtain ⟨⟨hcs,hcr⟩,hone⟩:=hx.cellsRd hc3
        have hsz:v.cells.size=size:=by rw [hcs,hc1]
        obtain ⟨g1,g2⟩:=fill_one cs off v (by rw [hsz,h.1]; exact hc2)
        obtain ⟨cs',k1,k2,k3⟩:=run_fillA place rest vrest (setSeg cells off x.cells) _ r ⟨by rw [g1,h.1,setSeg_length _ _ _ (by rw [hc1]; exact hc2)],fun j y u hy hu=>by
            rw [g2] at hu
            rw [setSeg_get _ _ _ (by rw [hc1]; exact hc2),hc1] at hy
            rw [hsz] at hu
            by_cases hj:off≤j∧j < off + size
            · rw [if_pos hj] at hu hy; exact hcr _ y u hy hu
            · rw [if_neg hj] at hu hy; exact h.2 _ y u hy hu⟩ (fun j u hu=>by
            rw [g2] at hu
            split at hu
            · exact hone _ u hu
            · exact h1 _ u hu) (by simpa using hl) (fun j p q hp' hq=>hp (j + 1) p q (by simpa using hp') (by simpa using hq)) hf
        refine ⟨cs', ?_,k2,k3⟩
        simp only [Instr.fill,hpl]
        rw [if_neg (by rw [hsz,h.1]; simp; exact hc2)]
        exact k1
      · cases hf
def zeroCellsA (z:Value):List AV:=z.cells.toList.map .val
def zeroA (z:Value):AV:=match z with
  | .agg cs=>.agg (cs.toList.map .val)
  | v=>.val v
theorem zeroA_cells (z:Value):(zeroA z).cells=zeroCellsA z:=by cases z <;> rfl
theorem zeroA_data (z:Value):(zeroA z).isData=true:=by
  have:∀ l:List Value,AV.isDataL (l.map .val)=true:=by
    intro l; induction l with
    | nil=>rfl
    | cons x xs ih=>simp [AV.isDataL,AV.isData,ih]
  cases z <;> first | exact this _ | rfl
theorem rd_zeroA {w : World} {e : Env} (z : Value) : Rd w e (zeroA z) z := by
  cases z <;> first
    | exact .data (.val _)
    | exact .agg _ _ (by simp) (fun i x v hx hv=>by
        simp at hx; obtain ⟨u,hu,rfl⟩:=hx
        rw [hv] at hu; cases hu; exact .data (.val _))
theorem zeroCells_rd {w:World} {e:Env} (z:Value):CellsRd w e (zeroCellsA z) z.cells:=
  ⟨by simp [zeroCellsA],fun i x v hx hv=>by
    simp [zeroCellsA] at hx; obtain ⟨u,hu,rfl⟩:=hx
    rw [hv] at hu; cases hu; exact .data (.val _)⟩
def placesA (Γ : TypeId → Option TI) (fs : List Field) : Option (List (Nat × Nat)) :=
  match fs with
  | []=>some []
  | f :: r=>match Γ f.type,placesA Γ r with
    | some ti,some l=>some ((f.offset,ti.size) :: l)
    | _,_=>none
theorem run_placesA {Γ:TypeId→Option TI} (hΓ:TOk P Γ) (w:World):∀ (fs:List Field) (l:List (Nat×Nat)),placesA Γ fs=some l →
    (fs.mapM fun f=>(do pure (f.offset,← sizeOf f.type):Sem (Nat×Nat))).run P w = .ok l w
  | [],l,h=>by cases h; rfl
  | f :: r, l, h => by
    simp only [placesA] at h
    split at h
    · rename_i ti l' h1 h2
      cases h
      rw [List.mapM_cons]
      simp only [Sem.run_bind,run_size (hΓ _ _ h1),Result.andThen_ok,Sem.run_pure,run_placesA hΓ w r l' h2]
    · cases h
def buildA (Γ : TypeId → Option TI) (ti : TI) (parts : List (Nat × AV)) : Option AV :=
  match ti.desc with
  | .struct fs=>match placesA Γ fs.toList with
    | some pl=>(fillA (pl[·]?) (zeroCellsA ti.zero) parts).map .agg
    | none=>none
  | .array _ el=>match Γ el with
    | some te=>(fillA (fun i=>some (i * te.size,te.size)) (zeroCellsA ti.zero) parts).map .agg
    | none=>none
  | _=>none
theorem run_buildA {Γ : TypeId → Option TI} (hΓ : TOk P Γ) {t : TypeId} {ti : TI} (h : TIOk P t ti) {w : World} {e : Env} {parts : List (Nat × AV)} {vparts : List (Nat × Value)} {r : AV} (hl : vparts.length = parts.length)
    (hp:∀ (i:Nat) (p:Nat×AV) (q:Nat×Value),parts[i]?=some p→vparts[i]?=some q→p.1=q.1∧Rd w e p.2 q.2) (hr:buildA Γ ti parts=some r) :
    ∃ v,(Instr.build t vparts.toArray).run P w = .ok v w∧Rd w e r v:=by
  unfold buildA at hr
  split at hr
  · rename_i fs hd
    split at hr
    · rename_i pl hpl
      have hone:=h.zone
      obtain ⟨l,hl',rfl⟩:=Option.map_eq_some_iff.1 hr
      obtain ⟨cs',k1,k2,_⟩:=run_fillA (w:=w) (e:=e) (pl[·]?) parts vparts _ ti.zero.cells l (zeroCells_rd _) (fun i u hu=>by
        rw [Array.all_eq_true_iff_forall_mem] at hone
        exact hone u (Array.mem_of_getElem? hu)) hl hp hl'
      refine ⟨.agg cs', ?_,.agg _ _ k2.1 k2.2⟩
      have hm:=run_placesA hΓ w fs.toList pl hpl
      have hm' : (fs.mapM fun f=>(do pure (f.offset,← sizeOf f.type):Sem (Nat×Nat))).run P w = .ok pl.toArray w:=by
        rw [Array.mapM_eq_mapM_toList]
        simp only [Sem.run_map,hm,Result.andThen_ok]
      simp only [Instr.build,Sem.run_bind,run_zero h,Result.andThen_ok,run_und h,hd,hm']
      have:(fun (x:Nat)=>pl.toArray[x]?)=(fun (x:Nat)=>pl[x]?):=by funext x; simp
      simp only [this,k1]
      simp
    · cases hr
  · rename_i n el hd
    split at hr
    · rename_i te hte
      have hone:=h.zone
      obtain ⟨l,hl',rfl⟩:=Option.map_eq_some_iff.1 hr
      obtain ⟨cs',k1,k2,_⟩:=run_fillA (w:=w) (e:=e) (fun i=>some (i * te.size,te.size)) parts vparts _ ti.zero.cells l (zeroCells_rd _) (fun i u hu=>by
        rw [Array.all_eq_true_iff_forall_mem] at hone
        exact hone u (Array.mem_of_getElem? hu)) hl hp hl'
      refine ⟨.agg cs', ?_,.agg _ _ k2.1 k2.2⟩
      simp only [Instr.build,Sem.run_bind,run_zero h,Result.andThen_ok,run_und h,hd,run_size (hΓ _ _ hte),k1]
      simp
    · cases hr
  · cases hr
/-! ### len, min, max, cap -/
def lenA (ti:TI) (x:AV):Option AV:=
  match ti.desc,x with
  | .slice _,.imm l=>some (.val (.int .i64 l.length))
  | .slice _,.own _ _ len=>some (.val (.int .i64 len))
  | .slice _,.sub _ _ len=>some (.val (.int .i64 len))
  | .slice _,.val (.slice none n _)=>some (.val (.int .i64 n))
  | .string,.val (.string s)=>some (.val (.int .i64 s.size))
  | .array n _,_=>some (.val (.int .i64 n))
  | .map _ _,.val (.map none)=>some (.val (.int .i64 0))
  | _,_=>none
theorem run_lenA {t:TypeId} {ti:TI} (h:TIOk P t ti) {w:World} {e:Env} {x r:AV} {vx:Value} (hx:Rd w e x vx) (hr:lenA ti x=some r) (ty:TypeId):∃ v,(Builtin.len_ #[t] ty #[vx]).run P w = .ok v w∧Rd w e r v:=by
  unfold lenA at hr
  split at hr <;> (try cases hr)
  · rename_i el l hd
    cases hx with
    | data hx =>
      cases hx with
      | imm0 a cap=>exact ⟨goInt 0,by simp [Builtin.len_,run_und h,hd],.data (.val _)⟩
      | imm=>exact ⟨goInt l.length,by simp [Builtin.len_,run_und h,hd],.data (.val _)⟩
  · rename_i el id off len hd
    cases hx with
    | data hx=>cases hx
    | own0=>exact ⟨goInt 0,by simp [Builtin.len_,run_und h,hd],.data (.val _)⟩
    | own=>exact ⟨goInt len,by simp [Builtin.len_,run_und h,hd],.data (.val _)⟩
    | ownX=>exact ⟨goInt len,by simp [Builtin.len_,run_und h,hd],.data (.val _)⟩
  · rename_i el id i len hd
    cases hx with
    | data hx=>cases hx
    | sub=>exact ⟨goInt len,by simp [Builtin.len_,run_und h,hd],.data (.val _)⟩
    | subX=>exact ⟨goInt len,by simp [Builtin.len_,run_und h,hd],.data (.val _)⟩
  · rename_i el n c hd
    obtain rfl:=hx.val_inv
    exact ⟨goInt n,by simp [Builtin.len_,run_und h,hd],.data (.val _)⟩
  · rename_i s hd
    obtain rfl:=hx.val_inv
    exact ⟨goInt s.size,by simp [Builtin.len_,run_und h,hd],.data (.val _)⟩
  · rename_i n el hd
    exact ⟨goInt n,by simp [Builtin.len_,run_und h,hd],.data (.val _)⟩
  · rename_i k el hd
    obtain rfl:=hx.val_inv
    exact ⟨goInt 0,by simp [Builtin.len_,run_und h,hd],.data (.val _)⟩
def minA (mx:Bool):Value→List AV→Option Value
  | x,[]=>some x
  | .int k a,.val (.int _ b) :: r=>minA mx (.int k (if mx then (if b > a then b else a) else (if b < a then b else a))) r
  | _,_=>none
theorem run_minA {w : World} {e : Env} (mx : Bool) : ∀ (l : List AV) (vs : List Value) (x r : Value), vs.length = l.length → (∀ (i : Nat) (y : AV) (v : Value), l[i]? = some y → vs[i]? = some v → Rd w e y v) → minA mx x l = some r →
    (vs.foldlM (if mx then Builtin.max2 else Builtin.min2) x).run P w = .ok r w
  | [],vs,x,r,hl,hr,h=>by
    obtain rfl:=List.eq_nil_of_length_eq_zero hl
    cases x <;> (cases h; simp)
  | y :: l,[],x,r,hl,hr,h=>by simp at hl
  | y :: l, v :: vs, x, r, hl, hr, h => by
    unfold minA at h
    split at h
    · rename_i heq; cases heq
    · rename_i k a k' b rest heq
      cases heq
      have:=hr 0 _ v rfl rfl
      obtain rfl:=this.val_inv
      have ih:=run_minA mx l vs _ r (by simpa using hl) (fun i y v h1 h2=>hr (i + 1) y v (by simpa using h1) (by simpa using h2)) h
      rw [List.foldlM_cons,Sem.run_bind]
      have e1:((if mx then Builtin.max2 else Builtin.min2) (.int k a) (.int k' b)).run P w = .ok (.int k (if mx then (if b > a then b else a) else (if b < a then b else a))) w:=by
        cases mx <;> simp [Builtin.max2,Builtin.min2]
      rw [e1,Result.andThen_ok]
      exact ih
    · cases h
end
end Go.Sim
namespace Go.Sim
open Go.RowKit
section
variable {P:Program}
theorem Sim.blk_lt {w:World} {e:Env} {objs:List (Nat×Obj)} (h:Sim w e objs) {j:Nat} {m:Mta} {b:Nat} (hj:e.get j=some m) (hb:m.has b):b < w.heap.size:=by
  have hd:=h.dom j
  rw [hj] at hd
  simp only [Option.isSome_some] at hd
  obtain ⟨o,ho⟩:=Option.isSome_iff_exists.1 hd.symm
  have hk:=h.obj j o m ho hj
  cases o with
  | row d ty sz els =>
    replace hb:m.blk=some b:=hb.resolve_right (hk.only b)
    have:=hk.blk
    simp only [hb] at this
    obtain ⟨cur,h1,_⟩:=this
    exact (Array.getElem?_eq_some_iff.1 h1).1
  | mp d sh ents =>
    replace hb:m.blk=some b:=hb.resolve_right (hk.only b)
    obtain ⟨b',es,clock,h1,h2,_⟩:=hk.blk
    rw [hb] at h1; cases h1
    exact (Array.getElem?_eq_some_iff.1 h2).1
  | ext l J=>exact hk.lt b hb
  | fix ty sz cap els =>
    obtain ⟨hk,_⟩:=hk
    have hkb:=hk.blk
    rcases hb with hb | hb
    · simp only [hb] at hkb
      obtain ⟨cur,h1,_⟩:=hkb
      exact (Array.getElem?_eq_some_iff.1 h1).1
    · exact absurd hb (hk.only b)
  | gone=>exact absurd (hb.resolve_left fun h1=>by rw [hk.1.1] at h1; cases h1) (hk.2 b)
  | grid ty sz oty n rows=>exact CusOk.lt hk b hb
  | cus C=>exact CusOk.lt hk b hb
theorem Conc.alloc {st : St} {a : Act} {w : World} {e : Env} (h : Conc st a w e) (id cap : Nat) (hu : unp id = true) (d : Bool) (ty : TypeId) (sz : Nat) (els : List AV) (cells : Array Value)
    (hcs:cells.size=cap * sz) (hlen:els.length≤cap) (hcap:cap≤maxLen) (hel:∀ x∈els,x.cells.length=sz)
    (hcon:∀ (i:Nat) (x:AV),els[i]?=some x→∀ (j:Nat) (y:AV),x.cells[j]?=some y→∃ v,cells[i * sz + j]?=some v∧v.oneCell'=true∧CellRd d w e y v) :
    Conc (st.renew id (Obj.map (AV.kill id) (.row d ty sz els))) a (w.alloc (.cells cells ty)) (e.set id (mt (some w.heap.size) (cap) (sz)))∧Fr w e (w.alloc (.cells cells ty)) (e.set id (mt (some w.heap.size) (cap) (sz))):=by
  have hfr:Fr w e (w.alloc (.cells cells ty)) (e.set id (mt (some w.heap.size) (cap) (sz))):=by
    refine ⟨rfl,rfl,rfl,by simp,fun b hb _=>heap_alloc_old w _ b hb,fun b ho hb=>?_,rfl,Pinned.of fun j hj=>by simp [Env.set,unp_ne hu hj]⟩
    obtain ⟨j,m,hj,hm⟩:=ho
    simp only [Env.set] at hj
    split at hj
    · cases hj; rw [Mta.has_mk] at hm; cases hm; omega
    · exact ⟨j,m,hj,hm⟩
  refine ⟨h.renew id _ _ hfr (fun b hb j m' hj hm' hb'=>?_) (fun j m' b hj hm' hb'=>heap_alloc_old w _ b (h.sim.blk_lt hm' hb')) ?_ (fun b hb=>?_),hfr⟩
  · rw [Mta.has_mk] at hb; cases hb; have:=h.sim.blk_lt hm' hb'; omega
  · have ht:=turns_kill (w:=w) (e:=e) id hfr (fun j hj=>by simp [Env.set,hj])
    cases d with
    | true =>
      refine ⟨rfl,hlen,hcap,hel,fun _ h=>h,cells,heap_alloc_new w _,hcs,fun i x hx j y hy=>?_⟩
      obtain ⟨v,g1,g2,g3⟩:=hcon i x hx j y hy
      exact ⟨v,g1,g2,by simp only [CellRd,if_true] at g3 ⊢; exact g3.fr hfr⟩
    | false =>
      refine ⟨rfl,by simpa using hlen,hcap,fun x hx=>?_,fun _ h=>h,cells,heap_alloc_new w _,hcs,fun i x hx j y hy=>?_⟩
      · obtain ⟨y,hy,rfl⟩:=List.mem_map.1 hx
        rw [AV.mapCells_cells _ (AV.kill_cells id),List.length_map]; exact hel y hy
      · rw [List.getElem?_map] at hx
        obtain ⟨x0,hx0,rfl⟩:=Option.map_eq_some_iff.1 hx
        rw [AV.mapCells_cells _ (AV.kill_cells id),List.getElem?_map] at hy
        obtain ⟨y0,hy0,rfl⟩:=Option.map_eq_some_iff.1 hy
        obtain ⟨v,g1,g2,g3⟩:=hcon i x0 hx0 j y0 hy0
        exact ⟨v,g1,g2,by simp only [CellRd,Bool.false_eq_true,if_false] at g3 ⊢; exact ht _ _ g3⟩
  · rw [Mta.has_mk] at hb; cases hb; exact h.sim.new _ (Nat.le_refl _)
theorem Conc.phantom {st:St} {a:Act} {w:World} {e:Env} (h:Conc st a w e) (id:Nat) (hu:unp id=true) (ty:TypeId) (sz:Nat) :
    Conc (st.renew id (.row true ty sz [])) a w (e.set id (mt none 0 sz))∧Fr w e w (e.set id (mt none 0 sz)):=by
  have hfr:Fr w e w (e.set id (mt none 0 sz)):=by
    refine ⟨rfl,rfl,rfl,Nat.le_refl _,fun b hb _=>rfl,fun b ho hb=>?_,rfl,Pinned.of fun j hj=>by simp [Env.set,unp_ne hu hj]⟩
    obtain ⟨j,m,hj,hm⟩:=ho
    simp only [Env.set] at hj
    split at hj
    · cases hj; rw [Mta.has_mk] at hm; cases hm
    · exact ⟨j,m,hj,hm⟩
  exact ⟨h.renew id _ _ hfr (fun b hb=>by rw [Mta.has_mk] at hb; cases hb) (fun _ _ _ _ _ _=>rfl) ⟨rfl,Nat.le_refl _,Nat.zero_le _,fun x hx=>by simp at hx,fun _ h=>h,rfl⟩ (fun b hb=>by rw [Mta.has_mk] at hb; cases hb),hfr⟩
/-! ### new variables -/
def St.box (st:St) (id:Nat) (ty:TypeId) (x:AV):Option (AV×St):=
  if x.fit∧unp id then some (.ptr id 0 0,st.renew id (Obj.map (AV.kill id) (.row false ty x.cells.length [x]))) else none
theorem Conc.box {st st' : St} {a : Act} {w : World} {e : Env} (h : Conc st a w e) {id : Nat} {ty : TypeId} {x r : AV} {v : Value} (hx : Rd w e x v) (hr : st.box id ty x = some (r, st')) :
    ∃ w' e',(Instr.box ty v).run P w = .ok (.pointer (some ⟨w.heap.size,0,none⟩)) w'∧Conc st' a w' e'∧Fr w e w' e'∧Rd w' e' r (.pointer (some ⟨w.heap.size,0,none⟩)):=by
  unfold St.box at hr
  split at hr
  · rename_i hf
    obtain ⟨hf,hu⟩:=hf
    cases hr
    obtain ⟨⟨h1,h2⟩,h3⟩:=hx.cellsRd hf
    obtain ⟨c1,c2⟩:=h.alloc id 1 hu false ty x.cells.length [x] v.cells (by rw [h1,Nat.one_mul]) (Nat.le_refl _) (by unfold maxLen; omega) (by simp) (fun i y hy j z hz=>by
      cases i with
      | succ i=>simp at hy
      | zero =>
        simp at hy; subst hy
        have hlt:j < v.cells.size:=by rw [h1]; exact (List.getElem?_eq_some_iff.1 hz).1
        exact ⟨v.cells[j],by simp [Array.getElem?_eq_getElem hlt],h3 j _ (Array.getElem?_eq_getElem hlt),by
          simp only [CellRd,Bool.false_eq_true,if_false]; exact h2 j z _ hz (Array.getElem?_eq_getElem hlt)⟩)
    refine ⟨_,_, ?_,c1,c2, ?_⟩
    · simp [Instr.box,newVar,newRow,World.alloc_eq]
    · have:=Rd.ptr (w:=w.alloc (.cells v.cells ty)) (e:=e.set id (mt (some w.heap.size) (1) (x.cells.length))) id 0 0 (mt (some w.heap.size) (1) (x.cells.length)) w.heap.size (by simp [Env.set]) rfl
      simpa using this
  · cases hr
theorem run_alloc_box {t:TypeId} {ti:TI} (h:TIOk P t ti) (w:World):(Instr.alloc t true (.tuple #[])).run P w=(Instr.box t ti.zero).run P w:=by
  simp [Instr.alloc,Instr.box,run_zero h]
/-! ### letting an object go: its views become data -/
def St.freeze (st:St) (id:Nat):Option St:=
  match look id st.objs with
  | some (.row true _ sz els)=>if 0 < sz∧unp id then some (st.turn id (AV.frz id els)) else none
  | some (.grid _ _ _ _ rows)=>if unp id then some (st.turn id (AV.frz id (rows.map .imm))) else none
  | _=>none
theorem Conc.freezeG {st : St} {a : Act} {w : World} {e : Env} (h : Conc st a w e) {id : Nat} {ty : TypeId} {sz : Nat} {oty : TypeId} {n : Nat} {rows : List (List AV)} (ho : look id st.objs = some (.grid ty sz oty n rows)) (hu : unp id = true) :
    Conc (st.turn id (AV.frz id (rows.map .imm))) a w (e.drop id)∧Fr w e w (e.drop id):=by
  have hfr:=Fr.drop w e id hu
  have ht : Turns w e w (e.drop id) (AV.frz id (rows.map .imm)) := by
    intro x v hx
    have key:∀ y:AV,(∀ i off len,y≠.own i off len)→y=x→Rd w (e.drop id) (if y.men id then .dead else y) v:=by
      intro y _ hy
      subst hy
      cases hm:y.men id with
      | true=>exact .dead v
      | false =>
        refine hx.fr hfr fun j hj=>?_
        simp only [Env.drop]; rw [if_neg]; intro e; subst e; rw [hm] at hj; cases hj
    cases x with
    | own i off len =>
      simp only [AV.frz]
      by_cases hi:i=id
      · subst hi
        rw [if_pos rfl]
        split
        · rename_i hle
          rw [List.length_map] at hle
          refine .data ?_
          cases hx with
          | data hx=>cases hx
          | own0 _ m hm hb a=>simpa using RdD.imm0 a 0
          | ownX _ _ _ m hm hg=>exact absurd hg (h.sim.obj i _ m ho hm).live.1
          | own _ _ _ m b hm hb hc =>
            have hk:=(h.sim.obj i _ m ho hm).live.2
            have hkb:=hk.blk
            simp only [hb] at hkb
            obtain ⟨cur,h1,h2,_,h3⟩:=hkb
            by_cases h0:len=0
            · subst h0; simpa using RdD.imm0 (some _) _
            · have hl:(((rows.map AV.imm).drop off).take len).length=len:=by simp; omega
              have hget:∀ (k:Nat) (x:AV),(((rows.map AV.imm).drop off).take len)[k]?=some x→∃ r,rows[off + k]?=some r∧x = .imm r:=by
                intro k x hx
                rw [List.getElem?_take] at hx
                split at hx
                · rw [List.getElem?_drop,List.getElem?_map] at hx
                  obtain ⟨r,hr,rfl⟩:=Option.map_eq_some_iff.1 hx
                  exact ⟨r,hr,rfl⟩
                · cases hx
              have hq:∀ b',m.has b'→(e.drop i).q b':=fun b' hb'=>⟨h.sim.prok b' ⟨i,m,hm,hb'⟩,by
                rintro ⟨j,m',hj,hb2⟩
                simp only [Env.drop] at hj
                split at hj
                · cases hj
                · rename_i hne; exact hne (h.sim.inj j i m' m b' hj hm hb2 hb')⟩
              have hrow:∀ (k:Nat) (r:List AV) (cp:Nat),rows[k]?=some r→r.length≤cp→RdD w (e.drop i).q (.imm r) (.slice (some ⟨m.row.2 k,0,none⟩) r.length cp):=by
                intro k r cp hr hcp
                obtain ⟨g1,g2,g3⟩:=hk.good r (List.mem_of_getElem? hr)
                obtain ⟨c2,k1,k2,k3⟩:=hk.rows k r hr
                refine RdD.imm r (m.row.2 k) 0 cp sz (fun i j=>(w.cell? ⟨m.row.2 k,0 + i * sz + j,none⟩).getD undef) g1 hk.pos (hq _ (.inr ((hk.more _).2 ⟨k,(List.getElem?_eq_some_iff.1 hr).1,rfl⟩))) g2 hcp g3 (fun i x hx j y hy=>?_) (fun i x hx j y hy=>?_)
                · obtain ⟨v,f1,f2,_⟩:=k3 i x hx j y hy
                  rw [Nat.zero_add,cell_of_row w _ _ c2 ty (0,0) k1,f1]; exact ⟨rfl,f2⟩
                · obtain ⟨v,f1,f2,f3⟩:=k3 i x hx j y hy
                  rw [Nat.zero_add,cell_of_row w _ _ c2 ty (0,0) k1,f1]; exact f3.fr hfr
              have:=RdD.imm (w:=w) (q:=(e.drop i).q) (((rows.map AV.imm).drop off).take len) b (off * m.sz) (m.cap - off) 1 (fun k j=>(w.cell? ⟨b,off * m.sz + k * 1 + j,none⟩).getD undef)
                (by intro hnil; rw [hnil] at hl; simp at hl; exact h0 hl.symm) (by omega) (hq b (.inl hb)) (by rw [hl]; have:=hk.cap; omega) (by rw [hl]; omega)
                (fun x hx=>by
                  obtain ⟨k,hk2⟩:=List.mem_iff_getElem?.1 hx
                  obtain ⟨r,_,rfl⟩:=hget k x hk2
                  rfl)
                (fun k x hx j y hy=>by
                  obtain ⟨r,hr,rfl⟩:=hget k x hx
                  cases j with
                  | succ j=>simp [AV.cells] at hy
                  | zero =>
                    obtain ⟨cp,f1,f2⟩:=h3 _ r hr
                    rw [show off * m.sz + k * 1 + 0=off + k from by rw [hk.hsz]; omega]
                    rw [cell_of_row w b _ cur oty (0,0) h1,f2]; exact ⟨rfl,rfl⟩)
                (fun k x hx j y hy=>by
                  obtain ⟨r,hr,rfl⟩:=hget k x hx
                  cases j with
                  | succ j=>simp [AV.cells] at hy
                  | zero =>
                    simp only [AV.cells,List.getElem?_cons_zero,Option.some.injEq] at hy
                    subst hy
                    obtain ⟨cp,f1,f2⟩:=h3 _ r hr
                    rw [show off * m.sz + k * 1 + 0=off + k from by rw [hk.hsz]; omega]
                    rw [cell_of_row w b _ cur oty (0,0) h1,f2]
                    exact hrow _ r cp hr f1)
              rw [hl] at this
              exact this
        · exact .dead v
      · rw [if_neg hi]
        refine hx.fr hfr fun j hj=>?_
        simp only [AV.men,beq_iff_eq] at hj
        subst hj
        simp [Env.drop,hi]
    | _=>exact key _ (by simp) rfl
  exact ⟨h.shrink id _ hu ht (AV.frz_cells id _),hfr⟩
theorem Conc.freeze {st st' : St} {a : Act} {w : World} {e : Env} (h : Conc st a w e) {id : Nat} (hr : st.freeze id = some st') :
    Conc st' a w (e.drop id)∧Fr w e w (e.drop id)∧(∀ ty sz els,look id st.objs=some (.row true ty sz els)→Turns w e w (e.drop id) (AV.frz id els)):=by
  unfold St.freeze at hr
  split at hr
  · rename_i ty sz els ho
    split at hr
    · rename_i hz
      obtain ⟨hz,hu⟩:=hz
      cases hr
      have hfr:=Fr.drop w e id hu
      have ht : Turns w e w (e.drop id) (AV.frz id els) := by
        intro x v hx
        have key:∀ y:AV,(∀ i off len,y≠.own i off len)→y=x→Rd w (e.drop id) (if y.men id then .dead else y) v:=by
          intro y _ hy
          subst hy
          cases hm:y.men id with
          | true=>exact .dead v
          | false =>
            refine hx.fr hfr fun j hj=>?_
            simp only [Env.drop]; rw [if_neg]; intro e; subst e; rw [hm] at hj; cases hj
        cases x with
        | own i off len =>
          simp only [AV.frz]
          by_cases hi:i=id
          · subst hi
            rw [if_pos rfl]
            split
            · rename_i hle
              refine .data ?_
              cases hx with
              | data hx=>cases hx
              | own0 _ m hm hb a=>simpa using RdD.imm0 a 0
              | ownX _ _ _ m hm hg=>exact absurd hg (h.sim.obj i _ m ho hm).ngone
              | own _ _ _ m b hm hb hc =>
                have hk:=h.sim.obj i _ m ho hm
                have hkb:=hk.blk
                simp only [hb] at hkb
                obtain ⟨cur,h1,h2,h3⟩:=hkb
                have hms:m.sz=sz:=hk.hsz
                by_cases h0:len=0
                · subst h0; simpa using RdD.imm0 (some _) _
                · have hl:((els.drop off).take len).length=len:=by simp; omega
                  have hget:∀ (k:Nat) (x:AV),((els.drop off).take len)[k]?=some x→els[off + k]?=some x:=by
                    intro k x hx
                    rw [List.getElem?_take] at hx
                    split at hx
                    · rwa [List.getElem?_drop] at hx
                    · cases hx
                  have hq:(e.drop i).q b:=⟨h.sim.prok b ⟨i,m,hm,.inl hb⟩,by
                    rintro ⟨j,m',hj,hb'⟩
                    simp only [Env.drop] at hj
                    split at hj
                    · cases hj
                    · rename_i hne; exact hne (h.sim.inj j i m' m b hj hm hb' (.inl hb))⟩
                  have:=RdD.imm (w:=w) (q:=(e.drop i).q) ((els.drop off).take len) b (off * m.sz) (m.cap - off) sz (fun k j=>(w.cell? ⟨b,off * m.sz + k * sz + j,none⟩).getD undef)
                    (by intro hnil; rw [hnil] at hl; simp at hl; exact h0 hl.symm) hz hq (by rw [hl]; have:=hk.cap; omega) (by rw [hl]; omega)
                    (fun x hx=>hk.cells x (List.mem_of_mem_drop (List.mem_of_mem_take hx)))
                    (fun k x hx j y hy=>by
                      obtain ⟨v,g1,g2,_⟩:=h3 _ x (hget k x hx) j y hy
                      rw [show off * m.sz + k * sz + j=(off + k) * sz + j from by rw [hms,Nat.add_mul]]
                      rw [cell_of_row w b _ cur ty (0,0) h1,g1]; exact ⟨rfl,g2⟩)
                    (fun k x hx j y hy=>by
                      obtain ⟨v,g1,g2,g3⟩:=h3 _ x (hget k x hx) j y hy
                      rw [show off * m.sz + k * sz + j=(off + k) * sz + j from by rw [hms,Nat.add_mul]]
                      rw [cell_of_row w b _ cur ty (0,0) h1,g1]
                      simp only [CellRd,if_true] at g3; exact g3.fr hfr)
                  rw [hl] at this
                  exact this
            · exact .dead v
          · rw [if_neg hi]
            refine hx.fr hfr fun j hj=>?_
            simp only [AV.men,beq_iff_eq] at hj
            subst hj
            simp [Env.drop,hi]
        | _=>exact key _ (by simp) rfl
      refine ⟨h.shrink id _ hu ht (AV.frz_cells id els),hfr,fun ty' sz' els' ho'=>?_⟩
      rw [ho] at ho'; cases ho'; exact ht
    · cases hr
  · rename_i ho
    split at hr
    · rename_i hu
      cases hr
      obtain ⟨g1,g2⟩:=h.freezeG ho hu
      exact ⟨g1,g2,fun ty' sz' els' ho'=>by rw [ho] at ho'; cases ho'⟩
    · cases hr
  · cases hr
def St.toData1 (st : St) (g : AV → AV) (x : AV) : Option (AV × St × (AV → AV)) :=
  match g x with
  | .own id off len=>match look id st.objs,st.freeze id with
    | some (.row true _ _ els),some st'=>if off + len≤els.length then some (AV.frz id els (.own id off len),st',fun y=>AV.frz id els (g y)) else none
    | _,_=>none
  | y=>if y.isData then some (y,st,g) else none
def St.toDataL (st : St) (g : AV → AV) : List AV → Option (List AV × St × (AV → AV))
  | []=>some ([],st,g)
  | x :: xs => match st.toData1 g x with
    | some (y,st1,g1)=>match St.toDataL st1 g1 xs with
      | some (ys,st2,g2)=>some (y :: ys,st2,g2)
      | none=>none
    | none=>none
def St.toDataE (st : St) (g : AV → AV) (x : AV) : Option (AV × St × (AV → AV)) :=
  match x with
  | .agg l=>match st.toDataL g l with
    | some (ys,st1,g1)=>some (.agg ys,st1,g1)
    | none=>none
  | x=>st.toData1 g x
def St.toDataEs (st : St) (g : AV → AV) : List AV → Option (List AV × St × (AV → AV))
  | []=>some ([],st,g)
  | x :: xs => match st.toDataE g x with
    | some (y,st1,g1)=>match St.toDataEs st1 g1 xs with
      | some (ys,st2,g2)=>some (y :: ys,st2,g2)
      | none=>none
    | none=>none
def DataStep (a:Act) (w:World) (e0 e:Env) (st' : St) (g' : AV→AV) (Q:Env→Prop):Prop:=
  ∃ e',Conc st' a w e'∧Fr w e w e'∧Turns w e0 w e' g'∧Q e'
theorem toData1_step {st st' : St} {g g' : AV → AV} {a : Act} {w : World} {e0 e : Env} {x y : AV} (h : Conc st a w e) (hg : Turns w e0 w e g) (hr : st.toData1 g x = some (y, st', g')) :
    DataStep a w e0 e st' g' fun e'=>y.isData=true∧∀ v,Rd w e0 x v→RdD w e'.q y v:=by
  unfold St.toData1 at hr
  split at hr
  · rename_i id off len hgx
    split at hr
    · rename_i ty sz els st1 ho hf
      split at hr
      · rename_i hle
        cases hr
        obtain ⟨c1,c2,c3⟩:=h.freeze hf
        have ht:=c3 _ _ _ ho
        have hd:(AV.frz id els (.own id off len)).isData=true:=by simp [AV.frz,hle,AV.isData]
        refine ⟨_,c1,c2,fun z v hz=>ht _ _ (hg _ _ hz),hd,fun v hv=>?_⟩
        have h1:=hg _ _ hv
        rw [hgx] at h1
        exact (ht _ _ h1).toData hd
      · cases hr
    · cases hr
  · split at hr
    · rename_i hd
      cases hr
      exact ⟨e,h,Fr.refl w e,hg,hd,fun v hv=>(hg _ _ hv).toData hd⟩
    · cases hr
theorem toDataL_step : ∀ {l ys : List AV} {st st' : St} {g g' : AV → AV} {a : Act} {w : World} {e0 e : Env}, Conc st a w e → Turns w e0 w e g → st.toDataL g l = some (ys, st', g') →
    DataStep a w e0 e st' g' fun e'=>ys.length=l.length∧AV.isDataL ys=true∧∀ (i:Nat) (x y:AV) (v:Value),l[i]?=some x→ys[i]?=some y→Rd w e0 x v→RdD w e'.q y v
  | [],ys,st,st',g,g',a,w,e0,e,h,hg,hr=>by
    cases hr
    exact ⟨e,h,Fr.refl w e,hg,rfl,rfl,fun i x y v hx=>by simp at hx⟩
  | x :: xs, ys, st, st', g, g', a, w, e0, e, h, hg, hr => by
    simp only [St.toDataL] at hr
    split at hr
    · rename_i y st1 g1 h1
      split at hr
      · rename_i ys' st2 g2 h2
        cases hr
        obtain ⟨e1,c1,f1,t1,d1,k1⟩:=toData1_step h hg h1
        obtain ⟨e2,c2,f2,t2,l2,d2,k2⟩:=toDataL_step c1 t1 h2
        refine ⟨e2,c2,f1.trans f2,t2,by simp [l2],by simp [AV.isDataL,d1,d2],fun i z y' v hz hy' hv=>?_⟩
        cases i with
        | zero=>simp at hz hy'; subst hz; subst hy'; exact (k1 v hv).fr f2
        | succ i=>exact k2 i z y' v (by simpa using hz) (by simpa using hy') hv
      · cases hr
    · cases hr
theorem toDataE_step {st st' : St} {g g' : AV→AV} {a:Act} {w:World} {e0 e:Env} {x y:AV} (h:Conc st a w e) (hg:Turns w e0 w e g) (hr:st.toDataE g x=some (y,st',g')) :
    DataStep a w e0 e st' g' fun e'=>y.isData=true∧∀ v,Rd w e0 x v→RdD w e'.q y v:=by
  unfold St.toDataE at hr
  split at hr
  · rename_i l
    split at hr
    · rename_i ys st1 g1 h1
      cases hr
      obtain ⟨e1,c1,f1,t1,l1,d1,k1⟩:=toDataL_step h hg h1
      refine ⟨e1,c1,f1,t1,by simpa [AV.isData] using d1,fun v hv=>?_⟩
      obtain ⟨vs,rfl,hs,hr⟩:=hv.agg_inv
      refine .agg _ vs (by rw [hs,l1]) fun i y u hy hu=>?_
      have hlt:i < l.length:=by rw [← l1]; exact (List.getElem?_eq_some_iff.1 hy).1
      exact k1 i _ y u (List.getElem?_eq_getElem hlt) hy (hr i _ u (List.getElem?_eq_getElem hlt) hu)
    · cases hr
  · exact toData1_step h hg hr
theorem toDataEs_step : ∀ {l ys : List AV} {st st' : St} {g g' : AV → AV} {a : Act} {w : World} {e0 e : Env}, Conc st a w e → Turns w e0 w e g → st.toDataEs g l = some (ys, st', g') →
    DataStep a w e0 e st' g' fun e'=>ys.length=l.length∧AV.isDataL ys=true∧∀ (i:Nat) (x y:AV) (v:Value),l[i]?=some x→ys[i]?=some y→Rd w e0 x v→RdD w e'.q y v
  | [],ys,st,st',g,g',a,w,e0,e,h,hg,hr=>by
    cases hr
    exact ⟨e,h,Fr.refl w e,hg,rfl,rfl,fun i x y v hx=>by simp at hx⟩
  | x :: xs, ys, st, st', g, g', a, w, e0, e, h, hg, hr => by
    simp only [St.toDataEs] at hr
    split at hr
    · rename_i y st1 g1 h1
      split at hr
      · rename_i ys' st2 g2 h2
        cases hr
        obtain ⟨e1,c1,f1,t1,d1,k1⟩:=toDataE_step h hg h1
        obtain ⟨e2,c2,f2,t2,l2,d2,k2⟩:=toDataEs_step c1 t1 h2
        refine ⟨e2,c2,f1.trans f2,t2,by simp [l2],by simp [AV.isDataL,d1,d2],fun i z y' v hz hy' hv=>?_⟩
        cases i with
        | zero=>simp at hz hy'; subst hz; subst hy'; exact (k1 v hv).fr f2
        | succ i=>exact k2 i z y' v (by simpa using hz) (by simpa using hy') hv
      · cases hr
    · cases hr
theorem Turns.refl (w:World) (e:Env):Turns w e w e id:=fun _ _ h=>h
/-! ### a slice's literal -/
theorem fill_seq (size : Nat) : ∀ (vs : List (Nat × Value)) (k : Nat) (cs : Array Value), (∀ (i : Nat) (q : Nat × Value), vs[i]? = some q → q.1 = k + i ∧ q.2.cells.size = size) → (k + vs.length) * size ≤ cs.size →
    ∃ cs', Instr.fill (fun i => some (i * size, size)) cs vs = some cs' ∧ cs'.size = cs.size ∧ (∀ p, p < k * size → cs'[p]? = cs[p]?) ∧
      ∀ (i:Nat) (q:Nat×Value),vs[i]?=some q→∀ j,j < size→cs'[(k + i) * size + j]?=q.2.cells[j]?
  | [],k,cs,_,_=>⟨cs,rfl,rfl,fun _ _=>rfl,fun i q hq=>by simp at hq⟩
  | (i0,v) :: vs,k,cs,h,hle=>by
    obtain ⟨h1,h2⟩:=h 0 _ rfl
    simp only [Nat.add_zero] at h1
    subst h1
    simp only [List.length_cons] at hle
    have hle' : i0 * size + size≤cs.size:=by
      have:(i0 + (vs.length + 1)) * size=i0 * size + size + vs.length * size:=by rw [Nat.add_mul,Nat.add_mul]; omega
      omega
    obtain ⟨g1,g2⟩:=fill_one cs (i0 * size) v (by rw [h2]; exact hle')
    obtain ⟨cs',k1,k2,k3,k4⟩:=fill_seq size vs (i0 + 1) _ (fun i q hq=>by
      obtain ⟨a,b⟩:=h (i + 1) q (by simpa using hq); exact ⟨by omega,b⟩) (by rw [g1,show i0 + 1 + vs.length=i0 + (vs.length + 1) from by omega]; exact hle)
    have hstep:(i0 + 1) * size=i0 * size + size:=by rw [Nat.add_mul,Nat.one_mul]
    refine ⟨cs', ?_,by rw [k2,g1],fun p hp=>?_,fun i q hq j hj=>?_⟩
    · simp only [Instr.fill]
      rw [if_neg (by rw [h2]; simp; exact hle')]
      exact k1
    · rw [k3 p (by omega),g2,if_neg (by omega)]
    · cases i with
      | zero =>
        simp at hq; subst hq
        rw [Nat.add_zero,k3 _ (by omega),g2,if_pos (by rw [h2]; omega)]
        congr 1; omega
      | succ i =>
        have:=k4 i q (by simpa using hq) j hj
        rw [show i0 + 1 + i=i0 + (i + 1) from by omega] at this
        exact this
def isSeq (k:Nat):List Nat→Bool
  | []=>true
  | i :: r=>i == k && isSeq (k + 1) r
theorem isSeq_get:∀ {l:List Nat} {k:Nat},isSeq k l=true→∀ (i x:Nat),l[i]?=some x→x=k + i
  | y :: r,k,h,i,x,hx=>by
    simp only [isSeq,Bool.and_eq_true,beq_iff_eq] at h
    cases i with
    | zero=>simp at hx; omega
    | succ i=>have:=isSeq_get h.2 i x (by simpa using hx); omega
def St.buildSlice (st : St) (te : TI) (el : TypeId) (id len : Nat) (parts : List (Nat × AV)) : Option (AV × St) :=
  if isSeq 0 (parts.map (·.1))=true∧parts.length=len∧len * te.size≤16777216∧len≤16777216∧0 < te.size∧unp id then
    match st.toDataEs (fun x=>x) (parts.map (·.2)) with
    | some (ys,st1,_)=>if ys.all (fun y=>y.fit && decide (y.cells.length=te.size)) then some (.own id 0 len,st1.renew id (.row true el te.size ys)) else none
    | none=>none
  else none
theorem Conc.buildSlice {st st' : St} {a : Act} {w : World} {e : Env} (h : Conc st a w e) {t el : TypeId} {ti te : TI} (hti : TIOk P t ti) (hd : ti.desc = .slice el) (hte : TIOk P el te) {id len : Nat} {parts : List (Nat × AV)} {vparts : List (Nat × Value)} {r : AV}
    (hl:vparts.length=parts.length) (hp:∀ (i:Nat) (p:Nat×AV) (q:Nat×Value),parts[i]?=some p→vparts[i]?=some q→p.1=q.1∧Rd w e p.2 q.2) (hr:st.buildSlice te el id len parts=some (r,st')) :
    ∃ v w' e',(Instr.buildSlice t len vparts.toArray).run P w = .ok v w'∧Conc st' a w' e'∧Fr w e w' e'∧Rd w' e' r v:=by
  unfold St.buildSlice at hr
  split at hr
  · rename_i hc
    obtain ⟨hseq,hlen,hbig,hbig2,hz,hu⟩:=hc
    split at hr
    · rename_i ys st1 g1 hda
      split at hr
      · rename_i hall
        cases hr
        obtain ⟨e1,c1,f1,_,l1,d1,k1⟩:=toDataEs_step h (Turns.refl w e) hda
        rw [List.all_eq_true] at hall
        have hall' : ∀ y∈ys,y.fit=true∧y.cells.length=te.size:=fun y hy=>by
          have:=hall y hy; simp only [Bool.and_eq_true,decide_eq_true_eq] at this; exact this
        have hylen:ys.length=len:=by rw [l1,List.length_map,hlen]
        have hval:∀ (i:Nat) (y:AV) (q:Nat×Value),ys[i]?=some y→vparts[i]?=some q→RdD w e1.q y q.2:=by
          intro i y q hy hq
          have hlt:i < parts.length:=by rw [← hl]; exact (List.getElem?_eq_some_iff.1 hq).1
          have hpi:parts[i]?=some parts[i]:=List.getElem?_eq_getElem hlt
          exact k1 i parts[i].2 y q.2 (by simp [List.getElem?_map,hpi]) hy (hp i _ q hpi hq).2
        have hvp:∀ (i:Nat) (q:Nat×Value),vparts[i]?=some q→q.1=0 + i∧q.2.cells.size=te.size:=by
          intro i q hq
          have hlt:i < parts.length:=by rw [← hl]; exact (List.getElem?_eq_some_iff.1 hq).1
          have hpi:parts[i]?=some parts[i]:=List.getElem?_eq_getElem hlt
          have hyi:ys[i]?=some ys[i]:=List.getElem?_eq_getElem (by rw [hylen,← hlen]; exact hlt)
          have h1:=(hp i _ q hpi hq).1
          have h2:=isSeq_get hseq i parts[i].1 (by simp [List.getElem?_map,hpi])
          have h3:=hall' ys[i] (List.getElem_mem _)
          have h4:=(Rd.data (e:=e1) (hval i _ q hyi hq)).cellsRd h3.1
          exact ⟨by omega,by rw [h4.1.1,h3.2]⟩
        let zs:Array Value:=if len * te.size=0 then #[] else te.zero.cells
        obtain ⟨cs',g1,g2,_,g4⟩:=fill_seq te.size vparts 0 ((Array.range (len * te.size)).map (zs[· % zs.size]!)) hvp (by simp [hl,hlen])
        simp only [Array.size_map,Array.size_range] at g2
        obtain ⟨q1,q2⟩:=c1.alloc id len hu true el te.size ys cs' g2 (by omega) (by unfold maxLen; omega) (fun y hy=>(hall' y hy).2) (fun i y hy j z hz'=>by
          have hi:i < vparts.length:=by rw [hl,hlen,← hylen]; exact (List.getElem?_eq_some_iff.1 hy).1
          have hq:vparts[i]?=some vparts[i]:=List.getElem?_eq_getElem hi
          have h3:=hall' y (List.mem_of_getElem? hy)
          have h4:=(Rd.data (e:=e1) (hval i y _ hy hq)).cellsRd h3.1
          have hj:j < te.size:=by rw [← h3.2]; exact (List.getElem?_eq_some_iff.1 hz').1
          have hjv:j < vparts[i].2.cells.size:=by rw [h4.1.1,h3.2]; exact hj
          have h5:=g4 i _ hq j hj
          rw [Nat.zero_add] at h5
          refine ⟨vparts[i].2.cells[j],by rw [h5,Array.getElem?_eq_getElem hjv],h4.2 j _ (Array.getElem?_eq_getElem hjv), ?_⟩
          simp only [CellRd,if_true]
          exact (h4.1.2 j z _ hz' (Array.getElem?_eq_getElem hjv)).toData (by
            have hyd:y.isData=true:=AV.isDataL_mem d1 (List.mem_of_getElem? hy)
            cases y <;> simp only [AV.cells,List.getElem?_singleton] at hz' <;> first
              | (simp only [AV.isData] at hyd; exact AV.isDataL_mem hyd (List.mem_of_getElem? hz'))
              | (split at hz' <;> cases hz'; exact hyd)))
        have hobj:Obj.map (AV.kill id) (.row true el te.size ys) = .row true el te.size ys:=rfl
        rw [hobj] at q1
        refine ⟨.slice (some ⟨w.heap.size,0,none⟩) len len,_,_, ?_,q1,f1.trans q2, ?_⟩
        · have hrun:(Instr.buildSlice t len vparts.toArray).run P w = .ok (.slice (some ⟨w.heap.size,0,none⟩) len len) (w.alloc (.cells cs' el)):=by
            simp only [Instr.buildSlice,Sem.run_bind,run_und hti,Result.andThen_ok,hd,run_size hte]
            rw [if_neg (by omega)]
            by_cases h0:len * te.size=0
            · simp only [h0,if_true,Sem.run_bind,Sem.run_pure,Result.andThen_ok]
              simp only [zs,h0,if_true] at g1
              simp only [g1]
              simp [newRow]
            · simp only [h0,if_false,Sem.run_bind,run_zero hte,Sem.run_pure,Result.andThen_ok]
              simp only [zs,h0,if_false] at g1
              simp [g1,newRow,World.alloc_eq]
          exact hrun
        · have:=Rd.own (w:=w.alloc (.cells cs' el)) (e:=e1.set id (mt (some w.heap.size) (len) (te.size))) id 0 len (mt (some w.heap.size) (len) (te.size)) w.heap.size (by simp [Env.set]) rfl (by simp)
          simpa using this
      · cases hr
    · cases hr
  · cases hr
end
end Go.Sim
namespace Go.Sim
open Go.RowKit
section
variable {P:Program}
/-! ### make -/
def St.makeSlice (st : St) (te : TI) (el : TypeId) (id : Nat) (l c : AV) : Option (AV × St) :=
  match l,c with
  | .val (.int _ n),.val (.int _ k) =>
    if 0≤n∧n≤k∧k≤16777216∧te.bytes * 16777216≤281474976710656∧unp id then some (.own id 0 n.toNat,st.renew id (.row true el te.size (List.replicate n.toNat (zeroA te.zero)))) else none
  | _,_=>none
theorem madeCells_get (z:Array Value) (sz:Nat) (hz:z.size=sz) (cap i j:Nat) (hi:i < cap) (hj:j < sz):(madeCells z (cap * sz))[i * sz + j]?=z[j]?:=by
  have hlt:i * sz + j < cap * sz:=by
    have:(i + 1) * sz≤cap * sz:=Nat.mul_le_mul_right _ hi
    rw [Nat.add_mul,Nat.one_mul] at this; omega
  simp only [madeCells,Array.getElem?_map]
  rw [Array.getElem?_range,if_pos hlt]
  simp only [Option.map_some]
  have hm:(i * sz + j) % z.size=j:=by
    rw [hz,Nat.add_comm,Nat.add_mul_mod_self_right,Nat.mod_eq_of_lt hj]
  rw [hm,getElem!_pos z j (by omega),Array.getElem?_eq_getElem (by omega)]
theorem Conc.makeSlice {st st' : St} {a : Act} {w : World} {e : Env} (h : Conc st a w e) {t el : TypeId} {ti te : TI} (hti : TIOk P t ti) (hd : ti.desc = .slice el) (hte : TIOk P el te) {id : Nat} {l c r : AV} {vl vc : Value}
    (hl:Rd w e l vl) (hc:Rd w e c vc) (hr:st.makeSlice te el id l c=some (r,st')) :
    ∃ v w' e',(Instr.makeSlice t vl vc).run P w = .ok v w'∧Conc st' a w' e'∧Fr w e w' e'∧Rd w' e' r v:=by
  unfold St.makeSlice at hr
  split at hr
  · rename_i kl n kc k
    split at hr
    · rename_i hb
      obtain ⟨h0,h1,h2,h3,hu⟩:=hb
      cases hr
      obtain rfl:=hl.val_inv
      obtain rfl:=hc.val_inv
      obtain ⟨ki,hki,hks,hkb,hkz⟩:=hte.parts
      have hbytes:(ki.bytes:Int) * k≤281474976710656:=by
        rw [hkb]
        have:(te.bytes:Int) * k≤(te.bytes:Int) * 16777216:=Int.mul_le_mul_of_nonneg_left h2 (by omega)
        omega
      have hrun:=run_make (P:=P) w t el ki te.zero (by rw [hti.und,hd]) hki hkz kl kc n k h0 h1 hbytes (by omega)
      rw [hks] at hrun
      have hzs:=hte.zsz
      obtain ⟨q1,q2⟩:=h.alloc id k.toNat hu true el te.size (List.replicate n.toNat (zeroA te.zero)) (madeCells te.zero.cells (k.toNat * te.size)) (size_madeCells _ _) (by simp; omega) (by unfold maxLen; omega) (fun x hx=>by
          rw [List.eq_of_mem_replicate hx,zeroA_cells]; simp [zeroCellsA,hzs]) (fun i x hx j y hy=>by
          have hi:i < n.toNat:=by have:=(List.getElem?_eq_some_iff.1 hx).1; simpa using this
          have hx':=List.eq_of_mem_replicate (List.mem_of_getElem? hx)
          subst hx'
          rw [zeroA_cells] at hy
          have hj:j < te.size:=by have:=(List.getElem?_eq_some_iff.1 hy).1; simpa [zeroCellsA,hzs] using this
          have hjz:j < te.zero.cells.size:=by rw [hzs]; exact hj
          refine ⟨te.zero.cells[j],by rw [madeCells_get _ te.size hzs _ i j (by omega) hj]; exact Array.getElem?_eq_getElem hjz, ?_, ?_⟩
          · have:=hte.zone
            rw [Array.all_eq_true_iff_forall_mem] at this
            exact this _ (Array.getElem_mem _)
          · simp only [CellRd,if_true]
            simp only [zeroCellsA,List.getElem?_map,Array.getElem?_toList,Array.getElem?_eq_getElem hjz,Option.map_some,Option.some.injEq] at hy
            subst hy; exact .val _)
      refine ⟨_,_,_,hrun,q1,q2, ?_⟩
      have:=Rd.own (w:=w.alloc (.cells (madeCells te.zero.cells (k.toNat * te.size)) el)) (e:=e.set id (mt (some w.heap.size) (k.toNat) (te.size))) id 0 n.toNat (mt (some w.heap.size) (k.toNat) (te.size)) w.heap.size (by simp [Env.set]) rfl (by simp; omega)
      simpa using this
    · cases hr
  · cases hr
/-! ### a store -/
def AV.setCells (y : AV) (off : Nat) (xs : List AV) : Option AV :=
  match y with
  | .agg l=>if off + xs.length≤l.length then some (.agg (setSeg l off xs)) else none
  | _=>match off,xs with
    | 0,[.agg _]=>none
    | 0,[x]=>some x
    | _,_=>none
theorem AV.setCells_cells {y:AV} {off:Nat} {xs:List AV} {z:AV} (h:y.setCells off xs=some z):off + xs.length≤y.cells.length∧z.cells=setSeg y.cells off xs:=by
  unfold AV.setCells at h
  split at h
  · split at h
    · rename_i hle; cases h; exact ⟨hle,rfl⟩
    · cases h
  · rename_i hy
    have hc:y.cells=[y]:=by cases y <;> first | rfl | (exfalso; exact hy _ rfl)
    split at h
    · cases h
    · rename_i x hx
      cases h
      have hx' : z.cells=[z]:=by cases z <;> first | rfl | (exfalso; exact hx _ rfl)
      rw [hc]; exact ⟨by simp,by simp [setSeg,hx']⟩
    · cases h
def St.storeAt (st : St) (sz : Nat) (p x : AV) : Option St :=
  match p with
  | .ptr id0 i0 off0 => match look id0 st.objs with
    | some (.row d _ _ _)=>match (if d then st.toDataE (fun z=>z) x else some (x,st,fun z=>z)) with
      | some (x',st1,g)=>match g (.ptr id0 i0 off0) with
        | .ptr id i off=>match look id st1.objs with
          | some (.row d' ty s els)=>if d'=d∧x'.fit∧x'.cells.length=sz then (match els[i]? with
              | some y=>(match y.setCells off x'.cells with
                | some y'=>some { st1 with objs:=upd id (.row d ty s (els.set i y')) st1.objs }
                | none=>none)
              | none=>none) else none
          | _=>none
        | _=>none
      | none=>none
    | some (.grid ty s oty n rows)=>(match x with
      | .own j 0 l=>(match look j st.objs with
        | some (.row true ty' s' els)=>if (sz=1∧off0=0∧i0=rows.length∧i0 < n)∧(ty'=ty∧s'=s)∧(l=els.length∧0 < l∧j≠id0∧unp id0=true∧unp j=true) then
            some { st.turn j (AV.gk id0 j) with objs:=upd id0 (.grid ty s oty n (rows ++ [els])) (st.turn j (AV.gk id0 j)).objs } else none
        | _=>none)
      | _=>none)
    | _=>none
  | .sptr id i k off => match look id st.objs with
    | some (.grid ty s oty n rows)=>if x.isData∧x.fit∧x.cells.length=sz then (match rows[i]? with
      | some r=>(match r[k]? with
        | some y=>(match y.setCells off x.cells with
          | some y'=>some { st with objs:=upd id (.grid ty s oty n (rows.set i (r.set k y'))) st.objs }
          | none=>none)
        | none=>none)
      | none=>none) else none
    | _=>none
  | _=>none
theorem splice_size (cur:Array Value) (o:Nat) (cells:List Value) (h:o + cells.length≤cur.size):(cur.toList.take o ++ cells ++ cur.toList.drop (o + cells.length)).toArray.size=cur.size:=by
  simp only [List.size_toArray,List.length_append,List.length_take,List.length_drop,Array.length_toList]; omega
theorem splice_get (cur:Array Value) (o:Nat) (cells:List Value) (h:o + cells.length≤cur.size) (p:Nat):(cur.toList.take o ++ cells ++ cur.toList.drop (o + cells.length)).toArray[p]? =
    if o≤p∧p < o + cells.length then cells[p - o]? else cur[p]?:=by
  simp only [List.getElem?_toArray]
  have hl1:(cur.toList.take o).length=o:=by rw [List.length_take,Array.length_toList]; omega
  rw [List.append_assoc]
  by_cases hp1:p < o
  · rw [List.getElem?_append_left (by rw [hl1]; exact hp1),List.getElem?_take,if_pos hp1,if_neg (by omega)]; simp
  · rw [List.getElem?_append_right (by rw [hl1]; omega),hl1]
    by_cases hp2:p < o + cells.length
    · rw [List.getElem?_append_left (by omega),if_pos (by omega)]
    · rw [List.getElem?_append_right (by omega),if_neg (by omega),List.getElem?_drop]
      simp only [Array.getElem?_toList]
      congr 1; omega
theorem nlt {i i' sz j j' : Nat} (hj:j < sz) (hj' : j' < sz) (h:i * sz + j=i' * sz + j'):i=i'∧j=j':=by
  rcases Nat.lt_trichotomy i i' with hi | hi | hi
  · have:(i + 1) * sz≤i' * sz:=Nat.mul_le_mul_right _ hi
    rw [Nat.add_mul,Nat.one_mul] at this; omega
  · subst hi; exact ⟨rfl,by omega⟩
  · have:(i' + 1) * sz≤i * sz:=Nat.mul_le_mul_right _ hi
    rw [Nat.add_mul,Nat.one_mul] at this; omega
theorem Conc.storeRow {st:St} {a:Act} {w:World} {e:Env} (h:Conc st a w e) {id i off:Nat} {d:Bool} {ty:TypeId} {s:Nat} {els:List AV} {y y' : AV} {xs:List AV} {cells:Array Value} {m:Mta} {b:Nat}
    (ho:look id st.objs=some (.row d ty s els)) (hm:e.get id=some m) (hb:m.blk=some b) (hy:els[i]?=some y) (hy' : y.setCells off xs=some y')
    (hx1:cells.size=xs.length) (hx2:∀ (k:Nat) (u:Value),cells[k]?=some u→u.oneCell'=true) (hx3:∀ (k:Nat) (z:AV) (u:Value),xs[k]?=some z→cells[k]?=some u→CellRd d w e z u) :
    ∃ w',(storeCells ⟨b,i * m.sz + off,none⟩ cells.toList).run P w = .ok () w'∧Conc { st with objs:=upd id (.row d ty s (els.set i y')) st.objs } a w' e∧Fr w e w' e:=by
  have hk:=h.sim.obj id _ m ho hm
  have hkb:=hk.blk
  simp only [hb] at hkb
  obtain ⟨cur,h1,h2,h3⟩:=hkb
  have hms:m.sz=s:=hk.hsz
  obtain ⟨hle,hcells⟩:=AV.setCells_cells hy'
  have hys:y.cells.length=s:=hk.cells y (List.mem_of_getElem? hy)
  have hilt:i < els.length:=(List.getElem?_eq_some_iff.1 hy).1
  have hcap:=hk.len
  have hfit:i * m.sz + off + 0 + cells.toList.length≤cur.size:=by
    rw [h2,hms]
    have:(i + 1) * s≤m.cap * s:=Nat.mul_le_mul_right _ (by omega)
    rw [Nat.add_mul,Nat.one_mul] at this
    simp only [Array.length_toList,hx1]; omega
  have hrun:=run_storeCells_at P b (i * m.sz + off) ty cells.toList 0 cur w h1 (by omega) (fun u hu=>by
    obtain ⟨k,hk⟩:=List.mem_iff_getElem?.1 hu
    exact hx2 k u (by simpa using hk))
  simp only [Nat.add_zero] at hrun
  have hfr:Fr w e (w.setRow b (cur.toList.take (i * m.sz + off) ++ cells.toList ++ cur.toList.drop (i * m.sz + off + cells.toList.length)).toArray) e:=
    ⟨rfl,rfl,rfl,by simp,fun b' hb' hn=>setRow_other w b b' _ (fun he=>hn (by subst he; exact ⟨id,m,hm,.inl hb⟩)),fun _ ho _=>ho,rfl,.refl e⟩
  refine ⟨_,hrun,h.write id _ m hm hfr (fun j m' b' hj hm' hb'=>setRow_other w b b' _ (fun he=>by subst he; exact hj (h.sim.inj j id m' m _ hm' hm hb' (.inl hb)))) ?_,hfr⟩
  refine ⟨hk.hsz,by simpa using hk.len,hk.cap,fun z hz=>?_,hk.only, ?_⟩
  · rcases List.mem_or_eq_of_mem_set hz with hz | rfl
    · exact hk.cells z hz
    · rw [hcells,setSeg_length _ _ _ hle,hys]
  simp only [hb]
  refine ⟨_,setRow_heap w b cur _ ty (0,0) h1, ?_,fun i' x hx j z hz=>?_⟩
  · simp only [List.size_toArray,List.length_append,List.length_take,List.length_drop,Array.length_toList]
    simp only [Array.length_toList] at hfit
    rw [h2] at hfit ⊢; omega
  have hnew:∀ p,(cur.toList.take (i * m.sz + off) ++ cells.toList ++ cur.toList.drop (i * m.sz + off + cells.toList.length)).toArray[p]? =
      if i * m.sz + off≤p∧p < i * m.sz + off + xs.length then cells[p - (i * m.sz + off)]? else cur[p]?:=by
    intro p
    simp only [List.getElem?_toArray]
    have hl1:(cur.toList.take (i * m.sz + off)).length=i * m.sz + off:=by
      simp only [Array.length_toList] at hfit
      rw [List.length_take,Array.length_toList]; omega
    rw [List.append_assoc]
    by_cases hp1:p < i * m.sz + off
    · rw [List.getElem?_append_left (by rw [hl1]; exact hp1),List.getElem?_take,if_pos hp1,if_neg (by omega)]; simp
    · rw [List.getElem?_append_right (by rw [hl1]; omega),hl1]
      by_cases hp2:p < i * m.sz + off + xs.length
      · rw [List.getElem?_append_left (by simp only [Array.length_toList,hx1]; omega),if_pos (by omega)]; simp
      · rw [List.getElem?_append_right (by simp only [Array.length_toList,hx1]; omega),if_neg (by omega),List.getElem?_drop]
        simp only [Array.length_toList,hx1,Array.getElem?_toList]
        congr 1; omega
  rw [hnew]
  have hjs:j < s:=by
    have hjl:=(List.getElem?_eq_some_iff.1 hz).1
    rcases List.mem_or_eq_of_mem_set (List.mem_of_getElem? hx) with hm' | rfl
    · rw [hk.cells x hm'] at hjl; exact hjl
    · rw [hcells,setSeg_length _ _ _ hle,hys] at hjl; exact hjl
  by_cases hi:i'=i
  · subst hi
    rw [List.getElem?_set,if_pos rfl,if_pos hilt] at hx
    cases hx
    rw [hcells,setSeg_get _ _ _ hle] at hz
    by_cases hin:off≤j∧j < off + xs.length
    · rw [if_pos hin] at hz
      rw [if_pos (by rw [hms]; omega)]
      have hjc:j - off < cells.size:=by rw [hx1]; omega
      rw [show i' * s + j - (i' * m.sz + off)=j - off from by rw [hms]; omega,Array.getElem?_eq_getElem hjc]
      have hcr:=hx3 (j - off) z _ hz (Array.getElem?_eq_getElem hjc)
      exact ⟨_,rfl,hx2 _ _ (Array.getElem?_eq_getElem hjc),by
        cases d with
        | true=>simp only [CellRd,if_true] at hcr ⊢; exact hcr.fr hfr
        | false=>simp only [CellRd,Bool.false_eq_true,if_false] at hcr ⊢; exact hcr.fr hfr (fun _ _=>rfl)⟩
    · rw [if_neg hin] at hz
      rw [if_neg (by rw [hms]; omega)]
      obtain ⟨v,g1,g2,g3⟩:=h3 i' y hy j z hz
      exact ⟨v,g1,g2,by
        cases d with
        | true=>simp only [CellRd,if_true] at g3 ⊢; exact g3.fr hfr
        | false=>simp only [CellRd,Bool.false_eq_true,if_false] at g3 ⊢; exact g3.fr hfr (fun _ _=>rfl)⟩
  · rw [List.getElem?_set,if_neg (Ne.symm hi)] at hx
    have hno:¬ (i * m.sz + off≤i' * s + j∧i' * s + j < i * m.sz + off + xs.length):=by
      rintro ⟨a1,a2⟩
      rw [hms] at a1 a2
      have:=nlt (i:=i') (i':=i) (j:=j) (j':=i' * s + j - i * s) hjs (by omega) (by omega)
      exact hi this.1
    rw [if_neg hno]
    obtain ⟨v,g1,g2,g3⟩:=h3 i' x hx j z hz
    exact ⟨v,g1,g2,by
      cases d with
      | true=>simp only [CellRd,if_true] at g3 ⊢; exact g3.fr hfr
      | false=>simp only [CellRd,Bool.false_eq_true,if_false] at g3 ⊢; exact g3.fr hfr (fun _ _=>rfl)⟩
theorem Conc.storeGrid {st : St} {a : Act} {w : World} {e : Env} (h : Conc st a w e) {id i k off : Nat} {ty : TypeId} {s : Nat} {oty : TypeId} {n : Nat} {rows : List (List AV)} {r : List AV} {y y' : AV} {xs : List AV} {cells : Array Value} {m : Mta}
    (ho:look id st.objs=some (.grid ty s oty n rows)) (hm:e.get id=some m) (hr:rows[i]?=some r) (hy:r[k]?=some y) (hy' : y.setCells off xs=some y')
    (hx1:cells.size=xs.length) (hx2:∀ (k:Nat) (u:Value),cells[k]?=some u→u.oneCell'=true) (hx3:∀ (k:Nat) (z:AV) (u:Value),xs[k]?=some z→cells[k]?=some u→RdD w e.q z u) :
    ∃ w',(storeCells ⟨m.row.2 i,k * m.row.1 + off,none⟩ cells.toList).run P w = .ok () w'∧Conc { st with objs:=upd id (.grid ty s oty n (rows.set i (r.set k y'))) st.objs } a w' e∧Fr w e w' e:=by
  obtain ⟨hng,hk⟩:=(h.sim.obj id _ m ho hm).live
  obtain ⟨cur,h1,h2,h3⟩:=hk.rows i r hr
  obtain ⟨g1,g2,g3⟩:=hk.good r (List.mem_of_getElem? hr)
  have hi:i < rows.length:=(List.getElem?_eq_some_iff.1 hr).1
  obtain ⟨hle,hcells⟩:=AV.setCells_cells hy'
  have hys:y.cells.length=s:=g3 y (List.mem_of_getElem? hy)
  have hklt:k < r.length:=(List.getElem?_eq_some_iff.1 hy).1
  have hrs:=hk.rsz
  have hbnd:k * s + s≤r.length * s:=by have:(k + 1) * s≤r.length * s:=Nat.mul_le_mul_right _ (by omega); rwa [Nat.add_mul,Nat.one_mul] at this
  have hfit:k * m.row.1 + off + 0 + cells.toList.length≤cur.size:=by
    rw [hrs]; simp only [Array.length_toList,hx1]; omega
  have hrun:=run_storeCells_at P (m.row.2 i) (k * m.row.1 + off) ty cells.toList 0 cur w h1 (by omega) (fun u hu=>by
    obtain ⟨k,hk⟩:=List.mem_iff_getElem?.1 hu
    exact hx2 k u (by simpa using hk))
  simp only [Nat.add_zero] at hrun hfit
  have hown:m.has (m.row.2 i):=.inr ((hk.more _).2 ⟨i,hi,rfl⟩)
  have hfr:Fr w e (w.setRow (m.row.2 i) (cur.toList.take (k * m.row.1 + off) ++ cells.toList ++ cur.toList.drop (k * m.row.1 + off + cells.toList.length)).toArray) e:=
    ⟨rfl,rfl,rfl,by simp,fun b' hb' hn=>setRow_other w _ b' _ (fun he=>hn (by subst he; exact ⟨id,m,hm,hown⟩)),fun _ ho _=>ho,rfl,.refl e⟩
  refine ⟨_,hrun,h.write id _ m hm hfr (fun j m' b' hj hm' hb'=>setRow_other w _ b' _ (fun he=>by subst he; exact hj (h.sim.inj j id m' m _ hm' hm hb' hown))) ?_,hfr⟩
  refine ⟨?_,hng,fun b hb=>by rw [show (w.setRow (m.row.2 i) (cur.toList.take (k * m.row.1 + off) ++ cells.toList ++ cur.toList.drop (k * m.row.1 + off + cells.toList.length)).toArray).heap.size=w.heap.size by simp]; exact h.sim.blk_lt hm hb,gridC_stab _ _ _ _ _⟩
  have hkb:=hk.blk
  refine ⟨hk.hsz,hrs,hk.pos,by simpa using hk.len,hk.room,hk.cap,fun r' hr'=>?_, ?_,by simpa using hk.more,by simpa using hk.inj,fun i' r' hr'=>?_⟩
  · rcases List.mem_or_eq_of_mem_set hr' with h' | rfl
    · exact hk.good r' h'
    · refine ⟨fun hnil=>?_,by simpa using g2,fun x hx=>?_⟩
      · exact g1 (by simpa using hnil)
      · rcases List.mem_or_eq_of_mem_set hx with hx | rfl
        · exact g3 x hx
        · rw [hcells,setSeg_length _ _ _ hle,hys]
  · cases hmb:m.blk with
    | none=>simpa [hmb] using hkb
    | some b =>
      simp only [hmb] at hkb ⊢
      obtain ⟨c0,k1,k2,k3,k4⟩:=hkb
      refine ⟨c0,by rw [setRow_other w _ b _ (fun he=>k3 i hi he.symm)]; exact k1,k2,by simpa using k3,fun i' r' hr'=>?_⟩
      by_cases hii:i'=i
      · subst hii
        rw [List.getElem?_set,if_pos rfl,if_pos hi] at hr'
        cases hr'
        rw [List.length_set]
        exact k4 i' r hr
      · rw [List.getElem?_set,if_neg (Ne.symm hii)] at hr'
        exact k4 i' r' hr'
  · by_cases hii:i'=i
    · subst hii
      rw [List.getElem?_set,if_pos rfl,if_pos hi] at hr'
      cases hr'
      refine ⟨_,setRow_heap w _ cur _ ty (0,0) h1,by rw [splice_size _ _ _ hfit,List.length_set]; exact h2,fun k' x hx j z hz=>?_⟩
      rw [splice_get _ _ _ hfit]
      have hjs:j < s:=by
        have hjl:=(List.getElem?_eq_some_iff.1 hz).1
        rcases List.mem_or_eq_of_mem_set (List.mem_of_getElem? hx) with hm' | rfl
        · rw [g3 x hm'] at hjl; exact hjl
        · rw [hcells,setSeg_length _ _ _ hle,hys] at hjl; exact hjl
      by_cases hkk:k'=k
      · subst hkk
        rw [List.getElem?_set,if_pos rfl,if_pos hklt] at hx
        cases hx
        rw [hcells,setSeg_get _ _ _ hle] at hz
        by_cases hin:off≤j∧j < off + xs.length
        · rw [if_pos hin] at hz
          rw [if_pos (by rw [hrs]; simp only [Array.length_toList,hx1]; omega)]
          have hjc:j - off < cells.size:=by rw [hx1]; omega
          rw [show k' * s + j - (k' * m.row.1 + off)=j - off from by rw [hrs]; omega,Array.getElem?_toList,Array.getElem?_eq_getElem hjc]
          exact ⟨_,rfl,hx2 _ _ (Array.getElem?_eq_getElem hjc),(hx3 (j - off) z _ hz (Array.getElem?_eq_getElem hjc)).fr hfr⟩
        · rw [if_neg hin] at hz
          rw [if_neg (by rw [hrs]; simp only [Array.length_toList,hx1]; omega)]
          obtain ⟨v,f1,f2,f3⟩:=h3 k' y hy j z hz
          exact ⟨v,f1,f2,f3.fr hfr⟩
      · rw [List.getElem?_set,if_neg (Ne.symm hkk)] at hx
        rw [if_neg (by
          rintro ⟨a1,a2⟩
          simp only [Array.length_toList,hx1] at a2
          rw [hrs] at a1 a2
          have:=nlt (i:=k') (i':=k) (j:=j) (j':=k' * s + j - k * s) hjs (by omega) (by omega)
          exact hkk this.1)]
        obtain ⟨v,f1,f2,f3⟩:=h3 k' x hx j z hz
        exact ⟨v,f1,f2,f3.fr hfr⟩
    · rw [List.getElem?_set,if_neg (Ne.symm hii)] at hr'
      obtain ⟨c0,k1,k2,k3⟩:=hk.rows i' r' hr'
      have hi' : i' < rows.length:=(List.getElem?_eq_some_iff.1 hr').1
      refine ⟨c0,by rw [setRow_other w _ _ _ (fun he=>hii (hk.inj i' i hi' hi he))]; exact k1,k2,fun k' x hx j z hz=>?_⟩
      obtain ⟨v,f1,f2,f3⟩:=k3 k' x hx j z hz
      exact ⟨v,f1,f2,f3.fr hfr⟩
theorem Conc.absorb {st:St} {a:Act} {w:World} {e:Env} (h:Conc st a w e) {id j:Nat} {ty:TypeId} {s:Nat} {oty:TypeId} {n:Nat} {rows:List (List AV)} {els:List AV} {m mj:Mta} {b bj:Nat}
    (ho:look id st.objs=some (.grid ty s oty n rows)) (hoj:look j st.objs=some (.row true ty s els)) (hm:e.get id=some m) (hmj:e.get j=some mj) (hb:m.blk=some b) (hbj:mj.blk=some bj) (hlt:rows.length < n) (hl:0 < els.length) (hne:j≠id) (hu:unp id=true) (huj:unp j=true) :
    ∃ w' m',(storeCells ⟨b,rows.length,none⟩ [.slice (some ⟨bj,0,none⟩) els.length mj.cap]).run P w = .ok () w'∧Conc { st.turn j (AV.gk id j) with objs:=upd id (.grid ty s oty n (rows ++ [els])) (st.turn j (AV.gk id j)).objs } a w' ((e.drop j).set id m')∧Fr w e w' ((e.drop j).set id m'):=by
  obtain ⟨hng,hk⟩:=(h.sim.obj id _ m ho hm).live
  have hkj:=h.sim.obj j _ mj hoj hmj
  have hkb:=hk.blk
  simp only [hb] at hkb
  obtain ⟨c0,k1,k2,k3,k4⟩:=hkb
  have hkjb:=hkj.blk
  simp only [hbj] at hkjb
  obtain ⟨cj,j1,j2,j3⟩:=hkjb
  have hroom:=hk.room
  have hrun:=run_storeCells_at P b rows.length oty [.slice (some ⟨bj,0,none⟩) els.length mj.cap] 0 c0 w k1 (by simp; omega) (fun u hu=>by simp at hu; subst hu; rfl)
  simp only [Nat.add_zero] at hrun
  have hfit:rows.length + [Value.slice (some ⟨bj,0,none⟩) els.length mj.cap].length≤c0.size:=by simp; omega
  have hnb:∀ b',mj.has b'→b'=bj:=fun b' hb'=>hb'.elim (fun h1=>by rw [hbj] at h1; cases h1; rfl) fun h1=>absurd h1 (hkj.only b')
  have hnot:∀ b',m.has b'→b'≠bj:=fun b' hb' he=>by subst he; exact hne (h.sim.inj j id mj m _ hmj hm (.inl hbj) hb')
  obtain ⟨m',hm'⟩:∃ m' : Mta,m'={ m with more:=fun x=>m.more x∨x=bj,row:=(s,fun i=>if i=rows.length then bj else m.row.2 i) }:=⟨_,rfl⟩
  have e1:m'.blk=m.blk:=by rw [hm']
  have e2:m'.cap=m.cap:=by rw [hm']
  have e3:m'.sz=m.sz:=by rw [hm']
  have e4:m'.row.1=s:=by rw [hm']
  have e5:∀ i,m'.row.2 i=if i=rows.length then bj else m.row.2 i:=by rw [hm']; exact fun _=>rfl
  have e6:∀ x,m'.more x↔m.more x∨x=bj:=by rw [hm']; exact fun _=>Iff.rfl
  have hh:∀ b',m'.has b'→m.has b'∨mj.has b':=fun b' hb'=>by
    rcases hb' with h1 | h1
    · exact .inl (.inl (by rw [← e1]; exact h1))
    · rcases (e6 b').1 h1 with h2 | h2
      · exact .inl (.inr h2)
      · subst h2; exact .inr (.inl hbj)
  have hown:∀ b',m'.has b'→e.owned b':=fun b' hb'=>(hh b' hb').elim (fun h1=>⟨id,m,hm,h1⟩) fun h1=>⟨j,mj,hmj,h1⟩
  have hbl:=h.sim.blk_lt hm (.inl hb)
  obtain ⟨w',hw'⟩:∃ w',w'=w.setRow b (c0.toList.take rows.length ++ [Value.slice (some ⟨bj,0,none⟩) els.length mj.cap] ++ c0.toList.drop (rows.length + [Value.slice (some ⟨bj,0,none⟩) els.length mj.cap].length)).toArray:=⟨_,rfl⟩
  rw [← hw'] at hrun
  have hoth' : ∀ b',b'≠b→w'.heap[b']?=w.heap[b']?:=fun b' hb'=>by rw [hw']; exact setRow_other w b b' _ hb'
  have hsize:w'.heap.size=w.heap.size:=by rw [hw']; simp
  have hfr:Fr w e w' ((e.drop j).set id m'):=Fr.merge hm hmj hu huj (by rw [hw']; exact ⟨rfl,rfl,rfl⟩) (by omega) (fun b' _ hn=>hoth' b' fun he=>hn (by subst he; exact ⟨id,m,hm,.inl hb⟩)) fun b' hb' _=>hh b' hb'
  refine ⟨w',m',hrun,h.merge id j _ (AV.gk_cells id j) _ m' (Ne.symm hne) (by rw [hm]; rfl) hfr (turns_gk hm hng e1 e2 e3 hfr) (fun b' hb' k mk hk1 hk2 hk3 hk4=>?_) (fun k mk b' hk1 hk2 hk3 hk4=>hoth' b' fun he=>?_) ?_ (fun b' hb'=>h.sim.prok b' (hown b' hb')),hfr⟩
  · rcases hh b' hb' with h1 | h1
    · exact hk1 (h.sim.inj k id mk m b' hk3 hm hk4 h1)
    · exact hk2 (h.sim.inj k j mk mj b' hk3 hmj hk4 h1)
  · subst he; exact hk1 (h.sim.inj k id mk m _ hk3 hm hk4 (.inl hb))
  refine ⟨?_,fun hg=>(by rw [Mta.gone,e1,hb] at hg; exact absurd hg.1 (by simp)),fun b' hb'=>by rw [hsize]; exact (hh b' hb').elim (h.sim.blk_lt hm) (h.sim.blk_lt hmj),gridC_stab _ _ _ _ _⟩
  have hlast:∀ i (r:List AV),(rows ++ [els])[i]?=some r→(i < rows.length∧rows[i]?=some r)∨(i=rows.length∧r=els):=fun i r hr=>by
    by_cases hi:i < rows.length
    · rw [List.getElem?_append_left hi] at hr; exact .inl ⟨hi,hr⟩
    · rw [List.getElem?_append_right (by omega)] at hr
      have h0:i - rows.length=0:=by
        have:=(List.getElem?_eq_some_iff.1 hr).1; simp at this; omega
      rw [h0] at hr; simp at hr
      exact .inr ⟨by omega,hr.symm⟩
  refine ⟨by rw [e3]; exact hk.hsz,e4,hk.pos,by simp; omega,by rw [e2]; exact hroom,by rw [e2]; exact hk.cap,fun r hr=>?_, ?_,fun x=>?_,fun i1 i2 h1 h2 h12=>?_,fun i r hr=>?_⟩
  · rcases List.mem_append.1 hr with hr | hr
    · exact hk.good r hr
    · obtain rfl:=List.mem_singleton.1 hr
      exact ⟨fun hn=>by rw [hn] at hl; simp at hl,Nat.le_trans hkj.len hkj.cap,hkj.cells⟩
  · rw [e1]
    simp only [hb]
    refine ⟨_,by rw [hw']; exact setRow_heap w b c0 _ oty (0,0) k1,by rw [splice_size _ _ _ hfit,e2]; exact k2,fun i hi=>?_,fun i r hr=>?_⟩
    · rw [e5]
      split
      · exact fun he=>hnot b (.inl hb) he.symm
      · rename_i hne'; simp at hi; exact k3 i (by omega)
    · rw [splice_get _ _ _ hfit,e5]
      rcases hlast i r hr with ⟨hi,hr'⟩ | ⟨hi,rfl⟩
      · rw [if_neg (by omega),if_neg (by omega)]
        exact k4 i r hr'
      · subst hi
        rw [if_pos rfl,if_pos (by simp)]
        exact ⟨mj.cap,hkj.len,by simp⟩
  · rw [e6,hk.more]
    constructor
    · rintro (⟨i,hi,rfl⟩ | rfl)
      · exact ⟨i,by simp; omega,by rw [e5,if_neg (by omega)]⟩
      · exact ⟨rows.length,by simp,by rw [e5,if_pos rfl]⟩
    · rintro ⟨i,hi,rfl⟩
      rw [e5]
      split
      · exact .inr rfl
      · rename_i hne'; simp at hi; exact .inl ⟨i,by omega,rfl⟩
  · simp only [List.length_append,List.length_singleton] at h1 h2
    rw [e5,e5] at h12
    have hmr:∀ i,i < rows.length→m.has (m.row.2 i):=fun i hi=>.inr ((hk.more _).2 ⟨i,hi,rfl⟩)
    split at h12 <;> split at h12
    · omega
    · exact absurd h12.symm (hnot _ (hmr i2 (by omega)))
    · exact absurd h12 (hnot _ (hmr i1 (by omega)))
    · exact hk.inj i1 i2 (by omega) (by omega) h12
  · rw [e5]
    rcases hlast i r hr with ⟨hi,hr'⟩ | ⟨hi,rfl⟩
    · rw [if_neg (by omega)]
      obtain ⟨cr,q1,q2,q3⟩:=hk.rows i r hr'
      refine ⟨cr,by rw [hoth' _ (k3 i hi)]; exact q1,q2,fun k x hx jj y hy=>?_⟩
      obtain ⟨v,f1,f2,f3⟩:=q3 k x hx jj y hy
      exact ⟨v,f1,f2,f3.fr hfr⟩
    · subst hi
      rw [if_pos rfl]
      refine ⟨cj,by rw [hoth' _ (fun he=>hnot b (.inl hb) he.symm)]; exact j1, ?_,fun k x hx jj y hy=>?_⟩
      · rw [j2]; exact Nat.mul_le_mul_right _ hkj.len
      · obtain ⟨v,f1,f2,f3⟩:=j3 k x hx jj y hy
        simp only [CellRd,if_true] at f3
        exact ⟨v,f1,f2,f3.fr hfr⟩
theorem Conc.storeAt {st st' : St} {a : Act} {w : World} {e : Env} (h : Conc st a w e) {t : TypeId} {ti : TI} (hti : TIOk P t ti) {p x : AV} {vp vx : Value} (hp : Rd w e p vp) (hx : Rd w e x vx) (hr : st.storeAt ti.size p x = some st') :
    ∃ w' e',(Instr.storeAt t vp vx).run P w = .ok () w'∧Conc st' a w' e'∧Fr w e w' e':=by
  unfold St.storeAt at hr
  split at hr
  · rename_i id0 i0 off0
    split at hr
    · rename_i d ty0 s0 els0 ho0
      split at hr
      · rename_i x' st1 g hda
        have hstep:∃ e1,Conc st1 a w e1∧Fr w e w e1∧Turns w e w e1 g∧(if d then (x'.isData=true∧RdD w e1.q x' vx) else Rd w e1 x' vx):=by
          cases d with
          | true =>
            simp only [if_true] at hda ⊢
            obtain ⟨e1,c1,f1,t1,d1,k1⟩:=toDataE_step h (Turns.refl w e) hda
            exact ⟨e1,c1,f1,t1,d1,k1 vx hx⟩
          | false =>
            simp only [Bool.false_eq_true,if_false,Option.some.injEq,Prod.mk.injEq] at hda ⊢
            obtain ⟨rfl,rfl,rfl⟩:=hda
            exact ⟨e,h,Fr.refl w e,Turns.refl w e,hx⟩
        obtain ⟨e1,c1,f1,t1,k1⟩:=hstep
        split at hr
        · rename_i id i off hg
          split at hr
          · rename_i d' ty s els ho
            split at hr
            · rename_i hc
              obtain ⟨rfl,hfit,hlen⟩:=hc
              split at hr
              · rename_i y hy
                split at hr
                · rename_i y' hy'
                  cases hr
                  have hp1:=t1 _ _ hp
                  rw [hg] at hp1
                  obtain ⟨m,b,hm,hb,rfl⟩:=ptr_inv hp1 fun m hm=>(c1.sim.obj id _ m ho hm).ngone
                  have hxr:Rd w e1 x' vx:=by
                    cases d' with
                    | true=>simp only [if_true] at k1; exact .data k1.2
                    | false=>simpa using k1
                  obtain ⟨⟨q1,q2⟩,q3⟩:=hxr.cellsRd hfit
                  obtain ⟨w',g1,g2,g3⟩:=c1.storeRow (P:=P) (cells:=vx.cells) ho hm hb hy hy' q1 q3 (fun k z u hz hu=>by
                    cases d' with
                    | false=>simp only [CellRd,Bool.false_eq_true,if_false]; exact q2 k z u hz hu
                    | true =>
                      simp only [CellRd,if_true]
                      simp only [if_true] at k1
                      refine (q2 k z u hz hu).toData ?_
                      have hyd:=k1.1
                      cases x' <;> simp only [AV.cells,List.getElem?_singleton] at hz <;> first
                        | (simp only [AV.isData] at hyd; exact AV.isDataL_mem hyd (List.mem_of_getElem? hz))
                        | (split at hz <;> cases hz; exact hyd))
                  refine ⟨w',e1, ?_,g2,f1.trans g3⟩
                  simp only [Instr.storeAt,Instr.sureAddr,Sem.run_bind,Sem.run_pure,Result.andThen_ok,storeVar,run_size hti]
                  rw [if_neg (by rw [q1,hlen]; simp)]
                  exact g1
                · cases hr
              · cases hr
            · cases hr
          · cases hr
        · cases hr
      · cases hr
    · rename_i ty s oty n rows ho
      split at hr
      · rename_i j l
        split at hr
        · rename_i ty' s' els hoj
          split at hr
          · rename_i hc
            obtain ⟨⟨c1,rfl,rfl,c4⟩,⟨rfl,rfl⟩,c5,c6,c7,c8,c9⟩:=hc
            cases hr
            obtain ⟨m,b,hm,hb,rfl⟩:=ptr_inv hp fun m hm=>(h.sim.obj id0 _ m ho hm).live.1
            have hk:=(h.sim.obj id0 _ m ho hm).live.2
            cases hx with
            | data hx=>cases hx
            | own0 _ mj hmj hbj ad=>omega
            | ownX _ _ _ mj hmj hg=>exact absurd hg (h.sim.obj j _ mj hoj hmj).ngone
            | own _ _ _ mj bj hmj hbj hcap =>
              subst c5
              obtain ⟨w',m',r1,r2,r3⟩:=h.absorb (P:=P) ho hoj hm hmj hb hbj c4 c6 c7 c8 c9
              refine ⟨w',_, ?_,r2,r3⟩
              simp only [Instr.storeAt,Instr.sureAddr,Sem.run_bind,Sem.run_pure,Result.andThen_ok,storeVar,run_size hti]
              rw [if_neg (by rw [c1]; simp [Value.cells])]
              simpa [Value.cells,hk.hsz] using r1
          · cases hr
        · cases hr
      · cases hr
    · cases hr
  · rename_i id i k off
    split at hr
    · rename_i ty s oty n rows ho
      split at hr
      · rename_i hc
        obtain ⟨hd,hfit,hlen⟩:=hc
        split at hr
        · rename_i r hr0
          split at hr
          · rename_i y hy
            split at hr
            · rename_i y' hy'
              cases hr
              obtain ⟨m,hm,rfl⟩:=sptr_inv hp fun m hm=>(h.sim.obj id _ m ho hm).live.1
              obtain ⟨⟨q1,q2⟩,q3⟩:=hx.cellsRd hfit
              obtain ⟨w',g1,g2,g3⟩:=h.storeGrid (P:=P) (cells:=vx.cells) ho hm hr0 hy hy' q1 q3 (fun k z u hz hu=>by
                refine (q2 k z u hz hu).toData ?_
                cases x <;> simp only [AV.cells,List.getElem?_singleton] at hz <;> first
                  | (simp only [AV.isData] at hd; exact AV.isDataL_mem hd (List.mem_of_getElem? hz))
                  | (split at hz <;> cases hz; exact hd))
              refine ⟨w',e, ?_,g2,g3⟩
              simp only [Instr.storeAt,Instr.sureAddr,Sem.run_bind,Sem.run_pure,Result.andThen_ok,storeVar,run_size hti]
              rw [if_neg (by rw [q1,hlen]; simp)]
              exact g1
            · cases hr
          · cases hr
        · cases hr
      · cases hr
    · cases hr
  · cases hr
/-! ### append -/
def St.srcA (st : St) (sz : Nat) (x : AV) : Option (List AV) :=
  match x with
  | .imm l=>if l.all (fun y=>y.cells.length == sz) then some l else none
  | .own id off len=>match look id st.objs with
    | some (.row true _ s els)=>if s=sz∧off + len≤els.length then some ((els.drop off).take len) else none
    | _=>none
  | .val (.slice none 0 0)=>some []
  | _=>none
structure Appended (w w' : World) (ty:TypeId) (sz n m:Nat) (own:Option Nat) (olds news:List Value) (v' : Value) (g cap' : Nat) (cur' : Array Value):Prop where
  val:v' = .slice (some ⟨g,0,none⟩) (n + m) cap'
  blk:w'.heap[g]?=some (.cells cur' ty (0,0))
  size:cur'.size=cap' * sz
  fits:n + m≤cap'
  cap:cap'≤maxLen
  at_:some g=own∨w.heap.size≤g
  con:∀ p,p < (n + m) * sz→cur'[p]?=(olds ++ news)[p]?
  os:w'.os=w.os
  tape:w'.tape=w.tape
  output:w'.output=w.output
  grow:w.heap.size≤w'.heap.size
  keep:∀ k,k < w.heap.size→some k≠own→w'.heap[k]?=w.heap[k]?
theorem run_append_row {w:World} {t ty:TypeId} {ti te:TI} (hti:TIOk P t ti) (hd:ti.desc = .slice ty) (hte:TIOk P ty te) (rt:TypeId) {b n cap m c:Nat} {cur:Array Value} {ad:Addr} {olds news:List Value}
    (hb:w.heap[b]?=some (.cells cur ty (0,0))) (hcs:cur.size=cap * te.size) (hnc:n≤cap) (hcm:cap≤maxLen) (ho:cur.toList.take (n * te.size)=olds)
    (hl:news.length=m * te.size) (hnews:∀ (j:Nat) (u:Value),news[j]?=some u→w.cell? (ad.add j)=some u) (h1:∀ u∈news,u.oneCell'=true) (hbytes:(n + m) * te.bytes≤140737488355328) (h63:n + m≤maxLen) :
    ∃ v' w' g cap' cur',(Builtin.append_ #[t,t] rt #[.slice (some ⟨b,0,none⟩) n cap,.slice (some ad) m c]).run P w = .ok v' w'∧Appended w w' ty te.size n m (some b) olds news v' g cap' cur':=by
  obtain ⟨k,hk,hks,hkb,hkz⟩:=hte.parts
  have hu:P.underlying t=some (.slice ty):=by rw [hti.und,hd]
  have holen:olds.length=n * te.size:=by
    rw [← ho,List.length_take,Array.length_toList,hcs,Nat.min_eq_left]; exact Nat.mul_le_mul_right _ hnc
  by_cases hroom:n + m≤cap
  · have hfit:n * te.size + news.length≤cur.size:=by rw [hl,hcs,← Nat.add_mul]; exact Nat.mul_le_mul_right _ hroom
    have hr:=run_append_room (P:=P) w t rt ty k hu hk b n cap cur hb ad m c news (by rw [hks]; exact hl) hnews h1 hroom (by rw [hks]; exact hfit)
    rw [hks] at hr
    refine ⟨_,_,b,cap,_,hr,rfl,setRow_heap w b cur _ ty _ hb, ?_,hroom,hcm,.inl rfl,fun p hp=>?_,rfl,rfl,rfl,by simp,fun q _ hq=>setRow_other w b q _ (fun e=>hq (by rw [e]))⟩
    · simp only [List.size_toArray,List.length_append,List.length_take,List.length_drop,Array.length_toList]; omega
    · rw [ho,List.getElem?_toArray,List.getElem?_append_left]
      rw [List.length_append,holen,hl,← Nat.add_mul]; exact hp
  · have holds:∀ (j:Nat) (u:Value),olds[j]?=some u→w.cell? ((⟨b,0,none⟩:Addr).add j)=some u:=by
      intro j u hj
      rw [addr_add,Nat.zero_add,cell_of_row w b j cur ty (0,0) hb]
      rw [← ho,List.getElem?_take] at hj
      split at hj
      · simpa using hj
      · cases hj
    have hsmall:n + m≤9223372036854775807:=by simp only [maxLen] at h63; omega
    have hr:=run_append_grow (P:=P) w t rt ty k te.zero hu hk hkz ⟨b,0,none⟩ n cap olds (by rw [hks]; exact holen) holds ad m c news (by rw [hks]; exact hl) hnews (by omega) (by omega) (growslice_fits (by omega) (by rw [hkb]; exact hbytes))
    have hge:=grownCap_ge w (n + m) cap ty
    refine ⟨_,_,w.heap.size,_,_,hr,rfl,heap_alloc_new w.drew _, ?_,hge,grownCap_le_maxLen w (n + m) cap ty h63,.inr (Nat.le_refl _),fun p hp=>?_,rfl,rfl,rfl,by simp,fun q hq _=>heap_alloc_old w.drew _ q hq⟩
    · simp only [Array.size_append,List.size_toArray,size_zeroCells,hte.zsz,holen,hl,← Nat.add_mul]
      congr 1; omega
    · have hlen:(olds ++ news).length=(n + m) * te.size:=by rw [List.length_append,holen,hl,Nat.add_mul]
      rw [Array.getElem?_append_left (by simp only [Array.size_append,List.size_toArray]; rw [List.length_append] at hlen; omega),List.append_toArray,List.getElem?_toArray]
theorem run_append_none {w:World} {t ty:TypeId} {ti te:TI} (hti:TIOk P t ti) (hd:ti.desc = .slice ty) (hte:TIOk P ty te) (rt:TypeId) {m c:Nat} {a0:Option Addr} {ad:Addr} {news:List Value} (h0:0 < m)
    (hl:news.length=m * te.size) (hnews:∀ (j:Nat) (u:Value),news[j]?=some u→w.cell? (ad.add j)=some u) (hbytes:m * te.bytes≤140737488355328) (h63:m≤maxLen) :
    ∃ v' w' g cap' cur',(Builtin.append_ #[t,t] rt #[.slice a0 0 0,.slice (some ad) m c]).run P w = .ok v' w'∧Appended w w' ty te.size 0 m none [] news v' g cap' cur':=by
  obtain ⟨k,hk,hks,hkb,hkz⟩:=hte.parts
  have hu:P.underlying t=some (.slice ty):=by rw [hti.und,hd]
  have hsmall:m≤9223372036854775807:=by simp only [maxLen] at h63; omega
  have hge:=grownCap_ge w (0 + m) 0 ty
  have hmain:(Builtin.append_ #[t,t] rt #[.slice a0 0 0,.slice (some ad) m c]).run P w = .ok (.slice (some ⟨w.heap.size,0,none⟩) (0 + m) (grownCap w (0 + m) 0 ty))
      (w.drew.alloc (.cells (news.toArray ++ Builtin.zeroCells te.zero.cells (grownCap w (0 + m) 0 ty - (0 + m))) ty)):=by
    cases a0 with
    | none =>
      have hr:=run_append_nil (P:=P) w t rt ty k te.zero hu hk hkz ad m c news (by rw [hks]; exact hl) hnews h0 (by omega) (by rw [hkb]; omega)
      simpa using hr
    | some a1 =>
      have hr:=run_append_grow (P:=P) w t rt ty k te.zero hu hk hkz a1 0 0 [] (by simp) (fun j u hj=>by simp at hj) ad m c news (by rw [hks]; exact hl) hnews (by omega) (by omega) (growslice_fits (by omega) (by rw [hkb]; simpa using hbytes))
      simpa using hr
  refine ⟨_,_,w.heap.size,_,_,hmain,rfl,heap_alloc_new w.drew _, ?_,hge,grownCap_le_maxLen w (0 + m) 0 ty (by simpa using h63),.inr (Nat.le_refl _),fun p hp=>?_,rfl,rfl,rfl,by simp,fun q hq _=>heap_alloc_old w.drew _ q hq⟩
  · simp only [Array.size_append,List.size_toArray,size_zeroCells,hte.zsz,hl,← Nat.add_mul]
    congr 1; omega
  · rw [Array.getElem?_append_left (by simp only [List.size_toArray]; rw [hl]; simpa using hp),List.getElem?_toArray]; simp
theorem run_append_zero {w:World} {t ty:TypeId} {ti te:TI} (hti:TIOk P t ti) (hd:ti.desc = .slice ty) (hte:TIOk P ty te) (rt:TypeId) {n cap c:Nat} {a0 a1:Option Addr} (hn:n≤cap) :
    (Builtin.append_ #[t,t] rt #[.slice a0 n cap,.slice a1 0 c]).run P w = .ok (.slice a0 n cap) w:=by
  have hu:P.underlying t=some (.slice ty):=by rw [hti.und,hd]
  have hf:(Builtin.firstCells te.size 0 (.slice a1 0 c)).run P w = .ok #[] w:=by
    cases a1 <;> simp [Builtin.firstCells,loadCells,loadCellsFrom]
  obtain ⟨k,hk,hks,hkb,hkz⟩:=hte.parts
  cases a0 <;> simp [Builtin.append_,run_underlying hu,run_size hte,Builtin.lenOf,hn,hf,storeCells]
theorem divmod_lt {p n sz:Nat} (hz:0 < sz) (hp:p < n * sz):p / sz < n∧p % sz < sz∧p / sz * sz + p % sz=p:=
  ⟨(Nat.div_lt_iff_lt_mul hz).2 hp,Nat.mod_lt _ hz,by rw [Nat.mul_comm]; exact Nat.div_add_mod p sz⟩
theorem flat_news {w:World} {q:Nat→Prop} {l:List AV} {sz b off:Nat} (hz:0 < sz) (hsz:∀ x∈l,x.cells.length=sz)
    (hc:∀ (i:Nat) (x:AV),l[i]?=some x→∀ (j:Nat) (y:AV),x.cells[j]?=some y→∃ v,w.cell? ⟨b,off + (i * sz + j),none⟩=some v∧v.oneCell'=true∧RdD w q y v) :
    ∃ news : List Value, news.length = l.length * sz ∧ (∀ (j : Nat) (u : Value), news[j]? = some u → w.cell? ((⟨b, off, none⟩ : Addr).add j) = some u) ∧ (∀ u ∈ news, u.oneCell' = true) ∧
      ∀ (i:Nat) (x:AV),l[i]?=some x→∀ (j:Nat) (y:AV),x.cells[j]?=some y→∃ v,news[i * sz + j]?=some v∧v.oneCell'=true∧RdD w q y v:=by
  let f:Nat→Value:=fun p=>(w.cell? ⟨b,off + p,none⟩).getD undef
  have key:∀ p,p < l.length * sz→∃ v,w.cell? ⟨b,off + p,none⟩=some v∧v.oneCell'=true:=by
    intro p hp
    obtain ⟨h1,h2,h3⟩:=divmod_lt hz hp
    have hx:l[p / sz]?=some l[p / sz]:=List.getElem?_eq_getElem h1
    have hl:=hsz l[p / sz] (List.getElem_mem _)
    have hy:l[p / sz].cells[p % sz]?=some (l[p / sz].cells[p % sz]'(by rw [hl]; exact h2)):=List.getElem?_eq_getElem _
    obtain ⟨v,g1,g2,_⟩:=hc _ _ hx _ _ hy
    rw [h3] at g1
    exact ⟨v,g1,g2⟩
  refine ⟨(List.range (l.length * sz)).map f,by simp,fun j u hj=>?_,fun u hu=>?_,fun i x hx j y hy=>?_⟩
  · rw [List.getElem?_map] at hj
    obtain ⟨p,hp,rfl⟩:=Option.map_eq_some_iff.1 hj
    have hlt:j < l.length * sz:=by have:=(List.getElem?_eq_some_iff.1 hp).1; simpa using this
    rw [List.getElem?_range hlt] at hp
    cases hp
    obtain ⟨v,g1,_⟩:=key j hlt
    rw [addr_add]; simp [f,g1]
  · obtain ⟨p,hp,rfl⟩:=List.mem_map.1 hu
    obtain ⟨v,g1,g2⟩:=key p (by simpa using hp)
    simpa [f,g1] using g2
  · have hi:i < l.length:=(List.getElem?_eq_some_iff.1 hx).1
    have hj:j < sz:=by rw [← hsz x (List.mem_of_getElem? hx)]; exact (List.getElem?_eq_some_iff.1 hy).1
    have hlt:i * sz + j < l.length * sz:=by
      have:(i + 1) * sz≤l.length * sz:=Nat.mul_le_mul_right _ hi
      rw [Nat.add_mul,Nat.one_mul] at this; omega
    obtain ⟨v,g1,g2,g3⟩:=hc i x hx j y hy
    exact ⟨v,by rw [List.getElem?_map,List.getElem?_range hlt]; simp [f,g1],g2,g3⟩
structure Src (w:World) (e:Env) (sz:Nat) (l:List AV) (vx:Value):Prop where
  cells:∀ x∈l,x.cells.length=sz
  val : (l = [] ∧ ∃ a c, vx = .slice a 0 c) ∨ ∃ ad c, ∃ news : List Value, vx = .slice (some ad) l.length c ∧ news.length = l.length * sz ∧ (∀ (j : Nat) (u : Value), news[j]? = some u → w.cell? (ad.add j) = some u) ∧ (∀ u ∈ news, u.oneCell' = true) ∧
      ∀ (i:Nat) (x:AV),l[i]?=some x→∀ (j:Nat) (y:AV),x.cells[j]?=some y→∃ v,news[i * sz + j]?=some v∧v.oneCell'=true∧RdD w e.q y v
theorem Conc.src {st : St} {a : Act} {w : World} {e : Env} (h : Conc st a w e) {sz : Nat} (hz : 0 < sz) {x : AV} {vx : Value} {l : List AV} (hx : Rd w e x vx) (hr : st.srcA sz x = some l) : Src w e sz l vx := by
  unfold St.srcA at hr
  split at hr
  · split at hr
    · rename_i l0 hall
      cases hr
      simp only [List.all_eq_true,beq_iff_eq] at hall
      refine ⟨hall, ?_⟩
      cases hx with
      | data hx =>
        cases hx with
        | imm0 a cap=>exact .inl ⟨rfl,a,cap,rfl⟩
        | imm _ b off cap sz' vals hne hz' hq hlen hcap hsz hc hrr =>
          obtain ⟨y0,ys,rfl⟩:=List.exists_cons_of_ne_nil hne
          have:sz'=sz:=by rw [← hsz y0 (by simp),hall y0 (by simp)]
          subst this
          obtain ⟨news,n1,n2,n3,n4⟩:=flat_news (w:=w) (q:=e.q) (l:=y0 :: ys) (b:=b) (off:=off) hz hall (fun i x hx j y hy=>⟨vals i j,by
            obtain ⟨c1,c2⟩:=hc i x hx j y hy
            exact ⟨by rw [← c1]; congr 2; omega,c2,hrr i x hx j y hy⟩⟩)
          exact .inr ⟨⟨b,off,none⟩,cap,news,rfl,n1,n2,n3,n4⟩
    · cases hr
  · rename_i id off len
    split at hr
    · rename_i ty s els ho
      split at hr
      · rename_i hc
        obtain ⟨rfl,hle⟩:=hc
        cases hr
        have hl:((els.drop off).take len).length=len:=by simp; omega
        have hmem:∀ x∈(els.drop off).take len,x∈els:=fun x hx=>List.mem_of_mem_drop (List.mem_of_mem_take hx)
        cases hx with
        | data hx=>cases hx
        | own0 _ m hm hb a0 =>
          refine ⟨fun x hx=>?_,.inl ⟨by simp,a0,0,rfl⟩⟩
          simp at hx
        | ownX _ _ _ m hm hg=>exact absurd hg (h.sim.obj id _ m ho hm).ngone
        | own _ _ _ m b hm hb hc =>
          have hk:=h.sim.obj id _ m ho hm
          have hms:m.sz=s:=hk.hsz
          refine ⟨fun x hx=>hk.cells x (hmem x hx), ?_⟩
          have hkb:=hk.blk
          simp only [hb] at hkb
          obtain ⟨cur,h1,h2,h3⟩:=hkb
          have hget:∀ (k:Nat) (x:AV),((els.drop off).take len)[k]?=some x→els[off + k]?=some x:=by
            intro k x hx
            rw [List.getElem?_take] at hx
            split at hx
            · rwa [List.getElem?_drop] at hx
            · cases hx
          obtain ⟨news,n1,n2,n3,n4⟩:=flat_news (w:=w) (q:=e.q) (l:=(els.drop off).take len) (b:=b) (off:=off * m.sz) hz (fun x hx=>hk.cells x (hmem x hx)) (fun i x hx j y hy=>by
            obtain ⟨v,g1,g2,g3⟩:=h3 (off + i) x (hget i x hx) j y hy
            refine ⟨v, ?_,g2,by simpa [CellRd] using g3⟩
            rw [cell_of_row w b _ cur ty (0,0) h1,hms,← g1]; congr 1; rw [Nat.add_mul]; omega)
          rw [hl] at n1
          exact .inr ⟨⟨b,off * m.sz,none⟩,m.cap - off,news,by rw [hl],by rw [hl]; exact n1,n2,n3,n4⟩
      · cases hr
    · cases hr
  · cases hr
    obtain rfl:=hx.val_inv
    exact ⟨fun x hx=>by simp at hx,.inl ⟨rfl,none,0,rfl⟩⟩
  · cases hr
def capOk (n b:Nat):Bool:=decide (n * b≤140737488355328) && decide (n≤140737488355328)
theorem capOk_iff {n b:Nat}:capOk n b=true↔n * b≤140737488355328∧n≤140737488355328:=by simp [capOk]
theorem capOk_of {n b:Nat} (h:n≤100000000) (hb:b≤1000000):capOk n b=true:=by
  rw [capOk_iff]
  have:=Nat.mul_le_mul h hb
  omega
def St.appendA (st : St) (te : TI) (ty : TypeId) (nid : Nat) (s x : AV) : Option (AV × St) :=
  if 0 < te.size then
  match st.srcA te.size x with
  | some l=>match s with
    | .own id 0 len=>match look id st.objs with
      | some (.row true ty' sz els)=>if ty'=ty∧sz=te.size∧len=els.length∧capOk (els.length + l.length) te.bytes=true∧unp id then
          some (.own id 0 (els ++ l).length,st.renew id (.row true ty sz (els ++ l))) else none
      | _=>none
    | .val (.slice none 0 0)=>if capOk l.length te.bytes=true∧unp nid then some (.own nid 0 l.length,st.renew nid (.row true ty te.size l)) else none
    | _=>none
  | none=>none
  else none
theorem Conc.appended {st:St} {a:Act} {w w' : World} {e:Env} (h:Conc st a w e) {id:Nat} (hu:unp id=true) {ty:TypeId} {sz:Nat} {els l:List AV} {own:Option Nat} {olds news:List Value} {v' : Value} {g cap' : Nat} {cur' : Array Value}
    (ha:Appended w w' ty sz els.length l.length own olds news v' g cap' cur') (hcells:∀ x∈els ++ l,x.cells.length=sz)
    (hown:∀ b,own=some b→∃ m,e.get id=some m∧m.blk=some b) (holen:olds.length=els.length * sz)
    (hold:∀ (i:Nat) (x:AV),els[i]?=some x→∀ (j:Nat) (y:AV),x.cells[j]?=some y→∃ v,olds[i * sz + j]?=some v∧v.oneCell'=true∧RdD w e.q y v)
    (hnew:∀ (i:Nat) (x:AV),l[i]?=some x→∀ (j:Nat) (y:AV),x.cells[j]?=some y→∃ v,news[i * sz + j]?=some v∧v.oneCell'=true∧RdD w e.q y v) :
    ∃ e',Conc (st.renew id (.row true ty sz (els ++ l))) a w' e'∧Fr w e w' e'∧Rd w' e' (.own id 0 (els ++ l).length) v':=by
  let m:Mta:=mt (some g) cap' sz
  have hg:∀ b,some g=some b→(∃ m0,e.get id=some m0∧m0.blk=some b)∨w.heap.size≤b:=by
    intro b hb; cases hb
    rcases ha.at_ with h1 | h1
    · exact .inl (hown g h1.symm)
    · exact .inr h1
  have hkeep:∀ k,k < w.heap.size→(∀ m0,e.get id=some m0→m0.blk≠some k)→w'.heap[k]?=w.heap[k]?:=by
    intro k hk hn
    refine ha.keep k hk fun hko=>?_
    obtain ⟨m0,h1,h2⟩:=hown k hko.symm
    exact hn m0 h1 h2
  have hfr:Fr w e w' (e.set id m):=by
    refine ⟨ha.os,ha.tape,ha.output,ha.grow,fun b hb hn=>hkeep b hb (fun m0 h1 h2=>hn ⟨id,m0,h1,.inl h2⟩),fun b ho hb=>?_,rfl,Pinned.of fun j hj=>by simp [Env.set,unp_ne hu hj]⟩
    obtain ⟨j,mj,hj,hm⟩:=ho
    simp only [Env.set] at hj
    split at hj
    · cases hj
      rcases hg b (Mta.has_mk.1 hm) with ⟨m0,h1,h2⟩ | h1
      · exact ⟨id,m0,h1,.inl h2⟩
      · omega
    · exact ⟨j,mj,hj,hm⟩
  refine ⟨e.set id m,h.renew id _ m hfr (fun b hb j m' hj hm' hb'=>?_) (fun j m' b hj hm' hb'=>?_) ?_ (fun b hb=>?_),hfr, ?_⟩
  · rcases hg b (Mta.has_mk.1 hb) with ⟨m0,h1,h2⟩ | h1
    · exact hj (h.sim.inj j id m' m0 b hm' h1 hb' (.inl h2))
    · have:=h.sim.blk_lt hm' hb'; omega
  · exact hkeep b (h.sim.blk_lt hm' hb') (fun m0 h1 h2=>hj (h.sim.inj j id m' m0 b hm' h1 hb' (.inl h2)))
  · refine ⟨rfl,by rw [List.length_append]; exact ha.fits,ha.cap,hcells,fun _ h=>h,cur',ha.blk,ha.size,fun i x hx j y hy=>?_⟩
    have hi:i < els.length + l.length:=by have:=(List.getElem?_eq_some_iff.1 hx).1; simpa using this
    have hj:j < sz:=by rw [← hcells x (List.mem_of_getElem? hx)]; exact (List.getElem?_eq_some_iff.1 hy).1
    have hlt:i * sz + j < (els.length + l.length) * sz:=by
      have:(i + 1) * sz≤(els.length + l.length) * sz:=Nat.mul_le_mul_right _ hi
      rw [Nat.add_mul,Nat.one_mul] at this; omega
    rw [ha.con _ hlt]
    by_cases hlo:i < els.length
    · rw [List.getElem?_append_left hlo] at hx
      obtain ⟨v,g1,g2,g3⟩:=hold i x hx j y hy
      refine ⟨v, ?_,g2,by simp only [CellRd,if_true]; exact g3.fr hfr⟩
      rw [List.getElem?_append_left (List.getElem?_eq_some_iff.1 g1).1]; exact g1
    · rw [List.getElem?_append_right (by omega)] at hx
      obtain ⟨v,g1,g2,g3⟩:=hnew (i - els.length) x hx j y hy
      refine ⟨v, ?_,g2,by simp only [CellRd,if_true]; exact g3.fr hfr⟩
      have h1:i * sz=els.length * sz + (i - els.length) * sz:=by rw [← Nat.add_mul]; congr 1; omega
      rw [List.getElem?_append_right (by omega),← g1]; congr 1; omega
  · rcases hg b (Mta.has_mk.1 hb) with ⟨m0,h1,h2⟩ | h1
    · exact h.sim.prok b ⟨id,m0,h1,.inl h2⟩
    · exact h.sim.new b h1
  · have hfit:=ha.fits
    have:=Rd.own (w:=w') (e:=e.set id m) id 0 (els ++ l).length m g (by simp [Env.set]) rfl (by simpa [m] using hfit)
    rw [ha.val]
    simpa [m,List.length_append] using this
theorem Fr.set_self {w:World} {e:Env} {id:Nat} {m:Mta} (h:e.get id=some m):Fr w e w (e.set id m):=by
  refine ⟨rfl,rfl,rfl,Nat.le_refl _,fun _ _ _=>rfl,fun b ho _=>?_,rfl,Pinned.of fun j _=>by simp only [Env.set]; split <;> simp_all⟩
  obtain ⟨j,mj,hj,hm⟩:=ho
  simp only [Env.set] at hj
  split at hj
  · cases hj; exact ⟨id,_,h,hm⟩
  · exact ⟨j,mj,hj,hm⟩
theorem Conc.appendA {st st' : St} {a : Act} {w : World} {e : Env} (h : Conc st a w e) {t ty : TypeId} {ti te : TI} (hti : TIOk P t ti) (hd : ti.desc = .slice ty) (hte : TIOk P ty te) (rt : TypeId) {nid : Nat} {s x r : AV} {vs vx : Value}
    (hs:Rd w e s vs) (hx:Rd w e x vx) (hr:st.appendA te ty nid s x=some (r,st')):∃ v w' e',(Builtin.append_ #[t,t] rt #[vs,vx]).run P w = .ok v w'∧Conc st' a w' e'∧Fr w e w' e'∧Rd w' e' r v:=by
  unfold St.appendA at hr
  split at hr
  · rename_i hz
    split at hr
    · rename_i l hsrc
      have hS:=h.src hz hx hsrc
      split at hr
      · rename_i id len
        split at hr
        · rename_i ty' sz els ho
          split at hr
          · rename_i hc
            obtain ⟨rfl,rfl,hlen,hb0,hu⟩:=hc
            obtain ⟨hb1,hb2⟩:=capOk_iff.1 hb0
            cases hr
            cases hs with
            | data hs=>cases hs
            | own0 _ m hm hb a0 =>
              have hk:=h.sim.obj id _ m ho hm
              have hcap0:m.cap=0:=by have:=hk.blk; simpa [hb] using this
              have hels:els=[]:=List.eq_nil_of_length_eq_zero (by have:=hk.len; omega)
              subst hels
              have hno:∀ b,¬ m.has b:=fun b hb'=>by rcases hb' with hb' | hb' <;> first | (rw [hb] at hb'; cases hb') | exact hk.only b hb'
              rcases hS.val with ⟨rfl,a1,c,rfl⟩ | ⟨ad,c,news,rfl,n1,n2,n3,n4⟩
              · have:=h.renew id (.row true ty' te.size []) m (Fr.set_self hm) (fun b hb'=>absurd hb' (hno b)) (fun _ _ _ _ _ _=>rfl) ⟨hk.hsz,by simp,hk.cap,fun x hx=>by simp at hx,hk.only,by simpa [hb] using hcap0⟩ (fun b hb'=>absurd hb' (hno b))
                exact ⟨_,w,e.set id m,run_append_zero hti hd hte rt (Nat.le_refl _),this,Fr.set_self hm,Rd.own0 id m (by simp [Env.set]) hb a0⟩
              · by_cases hl0:l=[]
                · subst hl0
                  have:=h.renew id (.row true ty' te.size []) m (Fr.set_self hm) (fun b hb'=>absurd hb' (hno b)) (fun _ _ _ _ _ _=>rfl) ⟨hk.hsz,by simp,hk.cap,fun x hx=>by simp at hx,hk.only,by simpa [hb] using hcap0⟩ (fun b hb'=>absurd hb' (hno b))
                  exact ⟨_,w,e.set id m,run_append_zero hti hd hte rt (Nat.le_refl _),this,Fr.set_self hm,Rd.own0 id m (by simp [Env.set]) hb a0⟩
                · simp only [List.length_nil,Nat.zero_add] at hb1 hb2
                  obtain ⟨v',w',g,cap',cur',hrun,hap⟩:=run_append_none (P:=P) (w:=w) (c:=c) (a0:=a0) hti hd hte rt (List.length_pos_iff.2 hl0) n1 n2 hb1 (by unfold maxLen; omega)
                  obtain ⟨e',q1,q2,q3⟩:=h.appended (id:=id) hu (els:=[]) (l:=l) hap (by simpa using hS.cells) (fun b hb'=>by cases hb') (by simp) (fun i x hx=>by simp at hx) n4
                  exact ⟨v',w',e',hrun,q1,q2,q3⟩
            | ownX _ _ _ m hm hg=>exact absurd hg (h.sim.obj id _ m ho hm).ngone
            | own _ _ _ m b hm hb hc =>
              subst hlen
              have hk:=h.sim.obj id _ m ho hm
              have hkb:=hk.blk
              simp only [hb] at hkb
              obtain ⟨cur,h1,h2,h3⟩:=hkb
              have hms:m.sz=te.size:=hk.hsz
              have hcap:=hk.len
              have holen:(cur.toList.take (els.length * te.size)).length=els.length * te.size:=by
                have hcl:cur.toList.length=m.cap * te.size:=by rw [← h2]; exact Array.length_toList
                rw [List.length_take,hcl,Nat.min_eq_left]; exact Nat.mul_le_mul_right _ hcap
              have hold:∀ (i:Nat) (x:AV),els[i]?=some x→∀ (j:Nat) (y:AV),x.cells[j]?=some y→∃ v,(cur.toList.take (els.length * te.size))[i * te.size + j]?=some v∧v.oneCell'=true∧RdD w e.q y v:=by
                intro i x hx j y hy
                obtain ⟨v,g1,g2,g3⟩:=h3 i x hx j y hy
                have hi:i < els.length:=(List.getElem?_eq_some_iff.1 hx).1
                have hj:j < te.size:=by rw [← hk.cells x (List.mem_of_getElem? hx)]; exact (List.getElem?_eq_some_iff.1 hy).1
                have hlt:i * te.size + j < els.length * te.size:=by
                  have:(i + 1) * te.size≤els.length * te.size:=Nat.mul_le_mul_right _ hi
                  rw [Nat.add_mul,Nat.one_mul] at this; omega
                exact ⟨v,by rw [List.getElem?_take,if_pos hlt]; simpa using g1,g2,by simpa [CellRd] using g3⟩
              have hcells:∀ x∈els ++ l,x.cells.length=te.size:=by
                intro x hx
                rcases List.mem_append.1 hx with hx | hx
                · exact hk.cells x hx
                · exact hS.cells x hx
              simp only [Nat.zero_mul,Nat.sub_zero]
              rcases hS.val with ⟨rfl,a1,c,rfl⟩ | ⟨ad,c,news,rfl,n1,n2,n3,n4⟩
              · have hap:Appended w w ty' te.size els.length ([]:List AV).length (some b) (cur.toList.take (els.length * te.size)) [] (.slice (some ⟨b,0,none⟩) els.length m.cap) b m.cap cur:=
                  ⟨rfl,h1,h2,by simpa using hcap,hk.cap,.inl rfl,fun p hp=>by
                    simp only [List.length_nil,Nat.add_zero] at hp
                    rw [List.append_nil,List.getElem?_take,if_pos hp]; simp,rfl,rfl,rfl,Nat.le_refl _,fun _ _ _=>rfl⟩
                obtain ⟨e',q1,q2,q3⟩:=h.appended (id:=id) hu (els:=els) (l:=[]) hap hcells (fun b' hb'=>by cases hb'; exact ⟨m,hm,hb⟩) holen hold (fun i x hx=>by simp at hx)
                exact ⟨_,w,e',run_append_zero hti hd hte rt hcap,q1,q2,q3⟩
              · obtain ⟨v',w',g,cap',cur',hrun,hap⟩:=run_append_row (P:=P) (c:=c) hti hd hte rt h1 h2 hcap hk.cap rfl n1 n2 n3 hb1 (by unfold maxLen; omega)
                obtain ⟨e',q1,q2,q3⟩:=h.appended (id:=id) hu (els:=els) (l:=l) hap hcells (fun b' hb'=>by cases hb'; exact ⟨m,hm,hb⟩) holen hold n4
                exact ⟨v',w',e',hrun,q1,q2,q3⟩
          · cases hr
        · cases hr
      · split at hr
        · rename_i hc
          obtain ⟨hb0,hu⟩:=hc
          obtain ⟨hb1,hb2⟩:=capOk_iff.1 hb0
          cases hr
          obtain rfl:=hs.val_inv
          by_cases hl0:l=[]
          · subst hl0
            obtain ⟨q1,q2⟩:=h.phantom nid hu ty te.size
            rcases hS.val with ⟨_,a1,c,rfl⟩ | ⟨ad,c,news,rfl,_⟩
            · exact ⟨_,w,_,run_append_zero hti hd hte rt (Nat.le_refl _),q1,q2,Rd.own0 nid (mt none 0 te.size) (by simp [Env.set]) rfl none⟩
            · exact ⟨_,w,_,run_append_zero hti hd hte rt (Nat.le_refl _),q1,q2,Rd.own0 nid (mt none 0 te.size) (by simp [Env.set]) rfl none⟩
          · rcases hS.val with ⟨rfl,_⟩ | ⟨ad,c,news,rfl,n1,n2,n3,n4⟩
            · exact absurd rfl hl0
            · obtain ⟨v',w',g,cap',cur',hrun,hap⟩:=run_append_none (P:=P) (w:=w) (c:=c) (a0:=none) hti hd hte rt (List.length_pos_iff.2 hl0) n1 n2 hb1 (by unfold maxLen; omega)
              obtain ⟨e',q1,q2,q3⟩:=h.appended (id:=nid) hu (els:=[]) (l:=l) hap (by simpa using hS.cells) (fun b hb'=>by cases hb') (by simp) (fun i x hx=>by simp at hx) n4
              exact ⟨v',w',e',hrun,q1,q2,q3⟩
        · cases hr
      · cases hr
    · cases hr
  · cases hr
end
end Go.Sim
namespace Go.Sim
open Go.RowKit
section
variable {P:Program}
/-! ### keys -/
def sameKey:Value→Value→Bool
  | .int q a,.int q' b=>q == q' && a == b
  | .string a,.string b=>a.data == b.data
  | .agg xs,.agg ys=>eqVals xs.toList ys.toList == some true
  | _,_=>false
def getM (k:Value):List (Value×AV)→Option AV
  | []=>none
  | (k',v) :: r=>if sameKey k k'=true then some v else getM k r
def setM (k:Value) (v:AV):List (Value×AV)→List (Value×AV)
  | []=>[(k,v)]
  | (k',v') :: r=>if sameKey k k'=true then (k,v) :: r else (k',v') :: setM k v r
def delM (k:Value):List (Value×AV)→List (Value×AV)
  | []=>[]
  | (k',v') :: r=>if sameKey k k'=true then r else (k',v') :: delM k r
theorem wfI64_inv {x:Value} (h:wfI64 x=true):∃ a,x = .int .i64 a:=by
  unfold wfI64 at h
  split at h
  · exact ⟨_,rfl⟩
  · cases h
theorem eqVals_i64:∀ (xs ys:List Value),xs.all wfI64=true→ys.all wfI64=true→(eqVals xs ys=some true↔xs=ys)
  | [],[],_,_=>by simp [eqVals]
  | [],y :: ys,_,_=>by simp [eqVals]
  | x :: xs,[],hx,_=>by
    simp only [List.all_cons,Bool.and_eq_true] at hx
    obtain ⟨a,rfl⟩:=wfI64_inv hx.1
    simp [eqVals]
  | x :: xs,y :: ys,hx,hy=>by
    simp only [List.all_cons,Bool.and_eq_true] at hx hy
    have ih:=eqVals_i64 xs ys hx.2 hy.2
    obtain ⟨a,rfl⟩:=wfI64_inv hx.1
    obtain ⟨b,rfl⟩:=wfI64_inv hy.1
    simp only [eqVals,if_true,Option.map_eq_some_iff,Bool.and_eq_true,beq_iff_eq,List.cons.injEq,Value.int.injEq,true_and]
    constructor
    · rintro ⟨r,h1,h2,rfl⟩; exact ⟨h2,ih.1 h1⟩
    · rintro ⟨h1,h2⟩; exact ⟨true,ih.2 h2,h1,rfl⟩
theorem sameKey_iff {sh a b:Value} (ha:fitsKey sh a=true) (hb:fitsKey sh b=true):sameKey a b=true↔a=b:=by
  cases sh <;> cases a <;> simp only [fitsKey,Bool.false_eq_true] at ha <;> cases b <;> simp only [fitsKey,Bool.false_eq_true] at hb
  · simp [sameKey]
  · simp only [sameKey,beq_iff_eq,Value.string.injEq]
    exact ⟨fun h=>ByteArray.ext h,fun h=>by rw [h]⟩
  · simp only [Bool.and_eq_true,beq_iff_eq] at ha hb
    simp only [sameKey,beq_iff_eq,Value.agg.injEq]
    rw [eqVals_i64 _ _ ha.2 hb.2]
    constructor
    · intro h; exact Array.ext' h
    · rintro rfl; rfl
theorem getM_none {sh k:Value} (hk:fitsKey sh k=true):∀ {l:List (Value×AV)},(∀ x∈l,fitsKey sh x.1=true)→(∀ x∈l,x.1≠k)→getM k l=none∧(∀ v,setM k v l=l ++ [(k,v)])∧delM k l=l
  | [],_,_=>⟨rfl,fun _=>rfl,rfl⟩
  | (k',v') :: r,hg,hn=>by
    have h1:sameKey k k'=false:=by
      cases hs:sameKey k k' with
      | false=>rfl
      | true=>exact absurd ((sameKey_iff hk (hg (k',v') (by simp))).1 hs).symm (hn (k',v') (by simp))
    obtain ⟨i1,i2,i3⟩:=getM_none hk (l:=r) (fun x hx=>hg x (by simp [hx])) (fun x hx=>hn x (by simp [hx]))
    exact ⟨by simp [getM,h1,i1],fun v=>by simp [setM,h1,i2],by simp [delM,h1,i3]⟩
theorem getM_some {sh k : Value} (hk : fitsKey sh k = true) : ∀ {l : List (Value × AV)} {j : Nat} {v : AV}, (∀ x ∈ l, fitsKey sh x.1 = true) → (l.map (·.1)).Nodup → l[j]? = some (k, v) → getM k l = some v ∧ (∀ u, setM k u l = l.set j (k, u)) ∧ delM k l = l.eraseIdx j
  | [],j,v,_,_,hj=>by simp at hj
  | (k',v') :: r,j,v,hg,hd,hj=>by
    simp only [List.map_cons,List.nodup_cons] at hd
    cases j with
    | zero =>
      simp only [List.getElem?_cons_zero,Option.some.injEq,Prod.mk.injEq] at hj
      obtain ⟨rfl,rfl⟩:=hj
      have h1:=(sameKey_iff hk hk).2 rfl
      exact ⟨by simp [getM,h1],fun u=>by simp [setM,h1],by simp [delM,h1]⟩
    | succ j =>
      simp only [List.getElem?_cons_succ] at hj
      have h1:sameKey k k'=false:=by
        cases hs:sameKey k k' with
        | false=>rfl
        | true =>
          have:=(sameKey_iff hk (hg (k',v') (by simp))).1 hs
          subst this
          exact absurd (List.mem_map.2 ⟨_,List.mem_of_getElem? hj,rfl⟩) hd.1
      obtain ⟨i1,i2,i3⟩:=getM_some hk (l:=r) (fun x hx=>hg x (by simp [hx])) hd.2 hj
      exact ⟨by simp [getM,h1,i1],fun u=>by simp [setM,h1,i2],by simp [delM,h1,i3]⟩
theorem mapFind {w:World} {e:Env} {m:Mta} {d:Bool} {sh:Value} {ents:List (Value×AV)} (hk:MapOk w e m d sh ents) {kt:TypeId} (hK:KeyTI P kt sh) {k:Value} (hf:fitsKey sh k=true):∃ b es clock,m.blk=some b∧w.heap[b]?=some (.map es clock)∧es.size=ents.length∧es.size≤maxLen ∧
    (∀ (i:Nat) (k:Value) (x:AV),ents[i]?=some (k,x)→∃ en,es[i]?=some en∧en.key=k∧CellRd d w e x en.val)∧(∀ em,(Instr.checkKey em 10000 kt k).run P w = .ok () w) ∧
    (((Instr.findKey kt k es.toList).run P w = .ok none w∧∀ x∈ents,x.1≠k)∨∃ j en v,(Instr.findKey kt k es.toList).run P w = .ok (some (j,en.val)) w∧es[j]?=some en∧en.key=k∧ents[j]?=some (k,v)∧CellRd d w e v en.val):=by
  obtain ⟨b,es,clock,h1,h2,h3,h4,h5⟩:=hk.blk
  obtain ⟨K,hK⟩:=hK
  obtain ⟨l,hl⟩:=hK k hf
  have hall:∀ en∈es.toList,∃ l,keyOf P kt en.key=some l:=by
    intro en hen
    obtain ⟨i,hi⟩:=List.mem_iff_getElem?.1 hen
    have hlt:i < ents.length:=by rw [← h3]; simpa using (List.getElem?_eq_some_iff.1 hi).1
    obtain ⟨en',g1,g2,_⟩:=h5 i _ _ (show ents[i]?=some (ents[i].1,ents[i].2) from List.getElem?_eq_getElem hlt)
    simp only [Array.getElem?_toList] at hi
    rw [hi] at g1; cases g1
    rw [g2]; exact hK _ (hk.good.1 _ (List.getElem_mem _))
  refine ⟨b,es,clock,h1,h2,h3,h4,h5,fun em=>K.check w em hl, ?_⟩
  rcases K.find w hl es.toList hall with ⟨g1,g2⟩ | ⟨j,en,g1,g2,g3⟩
  · refine .inl ⟨g1,fun x hx hxk=>?_⟩
    obtain ⟨i,hi⟩:=List.mem_iff_getElem?.1 hx
    obtain ⟨en,q1,q2,_⟩:=h5 i x.1 x.2 hi
    exact g2 en (List.mem_of_getElem? (by simpa using q1)) (q2.trans hxk)
  · simp only [Array.getElem?_toList] at g2
    have hlt:j < ents.length:=by rw [← h3]; exact (Array.getElem?_eq_some_iff.1 g2).1
    obtain ⟨en',q1,q2,q3⟩:=h5 j _ _ (show ents[j]?=some (ents[j].1,ents[j].2) from List.getElem?_eq_getElem hlt)
    rw [g2] at q1; cases q1
    exact .inr ⟨j,en,ents[j].2,g1,g2,g3,by rw [List.getElem?_eq_getElem hlt,← g3,q2],q3⟩
/-! ### what is asked of a map -/
def sameSh:Value→Value→Bool
  | .int q _,.int q' _=>q == q'
  | .string _,.string _=>true
  | .agg a,.agg b=>a.size == b.size
  | _,_=>false
theorem sameSh_fits {a b:Value} (h:sameSh a b=true) (v:Value):fitsKey a v=fitsKey b v:=by
  unfold sameSh at h
  split at h
  · simp only [beq_iff_eq] at h; subst h; cases v <;> rfl
  · cases v <;> rfl
  · simp only [beq_iff_eq] at h; cases v <;> simp [fitsKey,h]
  · cases h
theorem KeyTI.same {P:Program} {t:TypeId} {a b:Value} (h:KeyTI P t a) (hs:sameSh a b=true):KeyTI P t b:=⟨h.1,fun v hv=>h.2 v (by rw [sameSh_fits hs]; exact hv)⟩
def keySh (ti:TI):Option Value:=match ti.desc with
  | .int _=>some ti.zero
  | .string=>some ti.zero
  | _=>if ti.key=true then some ti.zero else none
theorem keySh_ok {t:TypeId} {ti:TI} (h:TIOk P t ti) (hz:(match ti.desc with | .int q=>(match ti.zero with | .int q' _=>q' == q | _=>false) | .string=>(match ti.zero with | .string _=>true | _=>false) | _=>true)=true) {sh:Value} (hs:keySh ti=some sh):KeyTI P t sh:=by
  unfold keySh at hs
  split at hs
  · rename_i q hd
    cases hs
    rw [hd] at hz
    simp only at hz
    split at hz
    · rename_i q' z hzz
      simp only [beq_iff_eq] at hz
      subst hz
      rw [hzz]
      refine ⟨Maps.int_keyed (by rw [h.und,hd]),fun v hv=>?_⟩
      cases v <;> simp only [fitsKey,Bool.false_eq_true] at hv
      simp only [Bool.and_eq_true,beq_iff_eq] at hv
      rw [hv.1]
      exact ⟨_,Maps.keyOf_int_mk (by rw [h.und,hd]) hv.2⟩
    · cases hz
  · rename_i hd
    cases hs
    rw [hd] at hz
    simp only at hz
    split at hz
    · rename_i z hzz
      rw [hzz]
      refine ⟨Maps.string_keyed (by rw [h.und,hd]),fun v hv=>?_⟩
      cases v <;> simp only [fitsKey,Bool.false_eq_true] at hv
      rename_i s
      refine ⟨.string s.data.toList, ?_⟩
      have:s.size≤maxLen:=by simpa using hv
      simp [keyOf,h.und,hd,mapKey,this]
    · cases hz
  · split at hs
    · rename_i hf; cases hs; exact h.key hf
    · cases hs
def keyZ (ti:TI):Bool:=match ti.desc with
  | .int q=>(match ti.zero with | .int q' _=>q' == q | _=>false)
  | .string=>(match ti.zero with | .string _=>true | _=>false)
  | _=>true
def keyV:AV→Option Value
  | .val v=>some v
  | .agg l=>(AV.vals l).map fun vs=>.agg vs.toArray
  | _=>none
theorem vals_rd {w : World} {e : Env} : ∀ {l : List AV} {vs : List Value} {us : List Value}, AV.vals l = some vs → us.length = l.length → (∀ (i : Nat) (x : AV) (u : Value), l[i]? = some x → us[i]? = some u → Rd w e x u) → us = vs
  | [],vs,us,h,hl,_=>by cases h; exact List.eq_nil_of_length_eq_zero hl
  | x :: xs, vs, us, h, hl, hr => by
    cases us with
    | nil=>simp at hl
    | cons u us =>
      unfold AV.vals at h
      split at h <;> first | (rename_i heq; cases heq; done) | skip
      · rename_i v rest heq
        cases heq
        obtain ⟨vs',h1,rfl⟩:=Option.map_eq_some_iff.1 h
        have e1:=vals_rd (w:=w) (e:=e) h1 (us:=us) (by simpa using hl) (fun i y v h2 h3=>hr (i + 1) y v (by simpa using h2) (by simpa using h3))
        have e2:=(hr 0 _ u rfl rfl).val_inv
        rw [e1,e2]
      · cases h
theorem keyV_rd {w:World} {e:Env} {x:AV} {k v:Value} (hk:keyV x=some k) (hx:Rd w e x v):v=k:=by
  unfold keyV at hk
  split at hk
  · cases hk; exact hx.val_inv
  · obtain ⟨vs,h1,rfl⟩:=Option.map_eq_some_iff.1 hk
    obtain ⟨us,rfl,hs,hr⟩:=hx.agg_inv
    have:=vals_rd (us:=us.toList) h1 (by simpa using hs) (fun i x u h2 h3=>hr i x u h2 (by simpa using h3))
    rw [← this]
  · cases hk
theorem map_inv {w:World} {e:Env} {id:Nat} {v:Value} (h:Rd w e (.map id) v) (hn:∀ m,e.get id=some m→¬ m.gone):∃ m b,e.get id=some m∧m.blk=some b∧v = .map (some b):=by
  cases h with
  | data h=>cases h
  | mapX _ m hm hg b=>exact absurd hg (hn m hm)
  | map _ m b hm hb=>exact ⟨m,b,hm,hb,rfl⟩
def lookupA (tk te : TI) (objs : List (Nat × Obj)) (m k : AV) (ok : Bool) : Option AV :=
  match m,keyV k with
  | .map id,some kv=>match look id objs,keySh tk,keyZ tk with
    | some (.mp _ sh ents),some sh',true=>if sameSh sh' sh=true∧fitsKey sh kv=true then
        (match getM kv ents with
        | some v=>some (if ok then .tup [v,.val (.bool true)] else v)
        | none=>some (if ok then .tup [zeroA te.zero,.val (.bool false)] else zeroA te.zero)) else none
    | _,_,_=>none
  | _,_=>none
theorem zeroA_rdD {w:World} {q:Nat→Prop} (z:Value):RdD w q (zeroA z) z:=by
  cases z <;> simp only [zeroA] <;> first | exact .val _ | skip
  rename_i xs
  refine .agg _ xs (by simp [zeroCellsA,Value.cells]) fun i x v hx hv=>?_
  simp only [zeroCellsA,Value.cells,List.getElem?_map,Array.getElem?_toList] at hx
  rw [hv] at hx
  simp at hx; subst hx; exact .val _
theorem run_lookupA {st : St} {w : World} {e : Env} {t kt et : TypeId} (ht : P.underlying t = some (.map kt et)) {tk te : TI} (hk : TIOk P kt tk) (he : TIOk P et te) (hs : ∀ id o m, look id st.objs = some o → e.get id = some m → ObjOk w e m o) {m k r : AV} {ok : Bool} {vm vk : Value}
    (hm:Rd w e m vm) (hkk:Rd w e k vk) (hr:lookupA tk te st.objs m k ok=some r):∃ v,(Instr.lookup t vm vk ok).run P w = .ok v w∧Rd w e r v:=by
  unfold lookupA at hr
  split at hr
  · rename_i id kv hkv
    split at hr
    · rename_i d sh ents sh' ho hsh hz
      split at hr
      · rename_i hc
        obtain ⟨hss,hf⟩:=hc
        obtain ⟨mm,b,hm1,hm2,rfl⟩:=map_inv hm fun m hm=>(hs id _ m ho hm).ngone
        obtain rfl:=keyV_rd hkv hkk
        have hK:=(keySh_ok hk hz hsh).same hss
        obtain ⟨b',es,clock,h1,h2,h3,h4,h5,h6,h7⟩:=mapFind (hs id _ mm ho hm1) hK hf
        rw [hm2] at h1; cases h1
        have hz:=run_zero he w
        rcases h7 with ⟨g1,g2⟩ | ⟨j,en,v,g1,g2,g3,g4,g5⟩
        · rw [(getM_none hf (hs id _ mm ho hm1).good.1 g2).1] at hr
          simp only [Option.some.injEq] at hr
          refine ⟨if ok then .tuple #[te.zero,.bool false] else te.zero, ?_, ?_⟩
          · simp only [Instr.lookup,Sem.run_bind,run_underlying ht,Result.andThen_ok,MapKept.run_getObj_map h2,Sem.run_pure,h6,g1,hz]
          · subst hr
            cases ok with
            | false=>simp only [Bool.false_eq_true,if_false]; exact .data (zeroA_rdD _)
            | true =>
              simp only [if_true]
              refine .tup _ _ rfl fun i x u hx hu=>?_
              rcases i with _ | _ | i
              · simp at hx hu; subst hx; subst hu; exact .data (zeroA_rdD _)
              · simp at hx hu; subst hx; subst hu; exact .data (.val _)
              · simp at hx
        · rw [(getM_some hf (hs id _ mm ho hm1).good.1 (hs id _ mm ho hm1).good.2 g4).1] at hr
          simp only [Option.some.injEq] at hr
          refine ⟨if ok then .tuple #[en.val,.bool true] else en.val, ?_, ?_⟩
          · simp only [Instr.lookup,Sem.run_bind,run_underlying ht,Result.andThen_ok,MapKept.run_getObj_map h2,Sem.run_pure,h6,g1]
          · subst hr
            cases ok with
            | false=>simp only [Bool.false_eq_true,if_false]; exact g5.rd
            | true =>
              simp only [if_true]
              refine .tup _ _ rfl fun i x u hx hu=>?_
              rcases i with _ | _ | i
              · simp at hx hu; subst hx; subst hu; exact g5.rd
              · simp at hx hu; subst hx; subst hu; exact .data (.val _)
              · simp at hx
      · cases hr
    · cases hr
  · cases hr
def lenM (objs : List (Nat × Obj)) (m : AV) : Option AV :=
  match m with
  | .map id=>match look id objs with
    | some (.mp _ _ ents)=>some (.val (.int .i64 ents.length))
    | _=>none
  | _=>none
theorem run_lenM {st:St} {w:World} {e:Env} {t kt et rt:TypeId} (ht:P.underlying t=some (.map kt et)) (hs:∀ id o m,look id st.objs=some o→e.get id=some m→ObjOk w e m o) {m r:AV} {vm:Value}
    (hm:Rd w e m vm) (hr:lenM st.objs m=some r):∃ v,(Builtin.len_ #[t] rt #[vm]).run P w = .ok v w∧Rd w e r v:=by
  unfold lenM at hr
  split at hr
  · rename_i id
    split at hr
    · rename_i d sh ents ho
      cases hr
      obtain ⟨mm,b,hm1,hm2,rfl⟩:=map_inv hm fun m hm=>(hs id _ m ho hm).ngone
      obtain ⟨b',es,clock,h1,h2,h3,_⟩:=(hs id _ mm ho hm1).blk
      rw [hm2] at h1; cases h1
      refine ⟨goInt es.size, ?_, ?_⟩
      · simp [Builtin.len_,run_underlying ht,MapKept.run_getObj_map h2]
      · rw [h3]; exact .data (.val _)
    · cases hr
  · cases hr
/-! ### what turns a map -/
def St.makeMap (st:St) (tk:TI) (id:Nat):Option (AV×St):=
  match keySh tk with
  | some sh=>if unp id then some (.map id,st.renew id (.mp true sh [])) else none
  | none=>none
theorem Conc.makeMap {st st' : St} {a : Act} {w : World} {e : Env} (h : Conc st a w e) {t : TypeId} {tk : TI} {id : Nat} {r : AV} (hr : st.makeMap tk id = some (r, st')) :
    ∃ v w' e',(Instr.makeMap t none).run P w = .ok v w'∧Conc st' a w' e'∧Fr w e w' e'∧Rd w' e' r v:=by
  unfold St.makeMap at hr
  split at hr
  · rename_i sh hsh
    split at hr
    · rename_i hu
      cases hr
      have hfr:Fr w e (w.alloc (.map #[] 0)) (e.set id (mt (some w.heap.size) 0 0)):=by
        refine ⟨rfl,rfl,rfl,by simp,fun b hb _=>heap_alloc_old w _ b hb,fun b ho hb=>?_,rfl,Pinned.of fun j hj=>by simp [Env.set,unp_ne hu hj]⟩
        obtain ⟨j,m,hj,hm⟩:=ho
        simp only [Env.set] at hj
        split at hj
        · cases hj; rw [Mta.has_mk] at hm; cases hm; omega
        · exact ⟨j,m,hj,hm⟩
      refine ⟨.map (some w.heap.size),w.alloc (.map #[] 0),_, ?_,h.renew id (.mp true sh []) (mt (some w.heap.size) 0 0) hfr (fun b hb j m' hj hm' hb'=>?_) (fun j m' b hj hm' hb'=>heap_alloc_old w _ b (h.sim.blk_lt hm' hb')) ?_ (fun b hb=>?_),hfr, ?_⟩
      · rfl
      · rw [Mta.has_mk] at hb; cases hb; have:=h.sim.blk_lt hm' hb'; omega
      · exact ⟨fun _ h=>h,⟨fun x hx=>by simp at hx,by simp⟩,w.heap.size,#[],0,rfl,heap_alloc_new w _,rfl,Nat.zero_le _,fun i k x hx=>by simp at hx⟩
      · rw [Mta.has_mk] at hb; cases hb; exact h.sim.new _ (Nat.le_refl _)
      · exact .map id (mt (some w.heap.size) 0 0) w.heap.size (by simp [Env.set]) rfl
    · cases hr
  · cases hr
def St.mapSet (st : St) (tk : TI) (m k x : AV) : Option St :=
  match m,keyV k with
  | .map id,some kv=>match look id st.objs,keySh tk,keyZ tk with
    | some (.mp d sh ents),some sh',true=>if sameSh sh' sh=true∧fitsKey sh kv=true∧(d && !x.isData)=false∧capOk (ents.length + 1) 1=true then some { st with objs:=upd id (.mp d sh (setM kv x ents)) st.objs } else none
    | _,_,_=>none
  | _,_=>none
theorem heap_put (w:World) (b:Nat) (o:Go.Obj) (hb:b < w.heap.size):({ w with heap:=w.heap.setIfInBounds b o }:World).heap[b]?=some o:=by simp [hb]
theorem heap_put_other (w:World) (b k:Nat) (o:Go.Obj) (h:k≠b):({ w with heap:=w.heap.setIfInBounds b o }:World).heap[k]?=w.heap[k]?:=by
  simp [Array.getElem?_setIfInBounds,Ne.symm h]
theorem Conc.mapWrite {st:St} {a:Act} {w:World} {e:Env} (h:Conc st a w e) {id:Nat} {m:Mta} {b:Nat} {d:Bool} {sh:Value} {ents ents' : List (Value×AV)} (ho:look id st.objs=some (.mp d sh ents)) (hm:e.get id=some m) (hb:m.blk=some b) {es es' : Array MapEntry} {clock clock' : Nat} (hh:w.heap[b]?=some (.map es clock))
    (hgood:(∀ x∈ents',fitsKey sh x.1=true)∧(ents'.map (·.1)).Nodup) (hsz:es'.size=ents'.length) (hmx:es'.size≤maxLen)
    (hel:∀ (i:Nat) (k:Value) (x:AV),ents'[i]?=some (k,x)→∃ en,es'[i]?=some en∧en.key=k∧CellRd d w e x en.val) :
    Conc { st with objs:=upd id (.mp d sh ents') st.objs } a { w with heap:=w.heap.setIfInBounds b (.map es' clock') } e∧Fr w e { w with heap:=w.heap.setIfInBounds b (.map es' clock') } e:=by
  have hblt:b < w.heap.size:=(Array.getElem?_eq_some_iff.1 hh).1
  have hown:e.owned b:=⟨id,m,hm,.inl hb⟩
  have hfr:Fr w e { w with heap:=w.heap.setIfInBounds b (.map es' clock') } e:=⟨rfl,rfl,rfl,by simp,fun k _ hn=>heap_put_other w b k _ (fun he=>hn (he ▸ hown)),fun _ h _=>h,rfl,.refl e⟩
  refine ⟨h.write id _ m hm hfr (fun j m' k hj hm' hk=>heap_put_other w b k _ (fun he=>hj (h.sim.inj j id m' m b hm' hm (he ▸ hk) (.inl hb)))) ?_,hfr⟩
  refine ⟨(h.sim.obj id _ m ho hm).only,hgood,b,es',clock',hb,heap_put w b _ hblt,hsz,hmx,fun i k x hx=>?_⟩
  obtain ⟨en,g1,g2,g3⟩:=hel i k x hx
  refine ⟨en,g1,g2, ?_⟩
  cases d with
  | true=>simp only [CellRd,if_true] at g3 ⊢; exact g3.fr hfr
  | false=>simp only [CellRd,Bool.false_eq_true,if_false] at g3 ⊢; exact g3.fr hfr (fun _ _=>rfl)
theorem Conc.mapSet {st st' : St} {a : Act} {w : World} {e : Env} (h : Conc st a w e) {t kt et : TypeId} (ht : P.underlying t = some (.map kt et)) {tk : TI} (hk : TIOk P kt tk) {m k x : AV} {vm vk vx : Value} (hm : Rd w e m vm) (hkk : Rd w e k vk) (hx : Rd w e x vx) (hr : st.mapSet tk m k x = some st') :
    ∃ w',(Instr.mapUpdate t vm vk vx).run P w = .ok () w'∧Conc st' a w' e∧Fr w e w' e:=by
  unfold St.mapSet at hr
  split at hr
  · rename_i id kv hkv
    split at hr
    · rename_i d sh ents sh' ho hsh hz
      split at hr
      · rename_i hc
        obtain ⟨hss,hf,hd,hcap⟩:=hc
        cases hr
        obtain ⟨mm,b,hm1,hm2,rfl⟩:=map_inv hm fun m hm=>(h.sim.obj id _ m ho hm).ngone
        obtain rfl:=keyV_rd hkv hkk
        have hK:=(keySh_ok hk hz hsh).same hss
        have hMk:=h.sim.obj id _ mm ho hm1
        obtain ⟨b',es,clock,h1,h2,h3,h4,h5,h6,h7⟩:=mapFind hMk hK hf
        rw [hm2] at h1; cases h1
        have hxd:CellRd d w e x vx:=by
          cases d with
          | true=>exact hx.toData (by simpa using hd)
          | false=>exact hx
        have hcap':=(capOk_iff.1 hcap).2
        obtain ⟨K,hKk⟩:=hK
        obtain ⟨l,hl⟩:=hKk vk hf
        rcases h7 with ⟨g1,g2⟩ | ⟨j,en,v,g1,g2,g3,g4,g5⟩
        · obtain ⟨_,e2,_⟩:=getM_none hf hMk.good.1 g2
          rw [e2 x]
          obtain ⟨c1,f1⟩:=h.mapWrite (es':=es.push ⟨vk,vx,clock⟩) (clock':=clock + 1) ho hm1 hm2 h2 (ents':=ents ++ [(vk,x)]) ⟨fun y hy=>by
              rcases List.mem_append.1 hy with hy | hy
              · exact hMk.good.1 y hy
              · simp at hy; subst hy; exact hf,by
              rw [List.map_append,List.nodup_append]
              exact ⟨hMk.good.2,by simp,fun a ha b hb=>by
                simp at hb; subst hb
                obtain ⟨y,hy,rfl⟩:=List.mem_map.1 ha
                exact g2 y hy⟩⟩ (by simp [h3]) (by simp; unfold maxLen; omega) (fun i k y hy=>by
              rw [List.getElem?_append] at hy
              split at hy
              · rename_i hi
                obtain ⟨en,q1,q2,q3⟩:=h5 i k y hy
                exact ⟨en,by rw [Array.getElem?_push,if_neg (by omega)]; exact q1,q2,q3⟩
              · rename_i hi
                have hlt:=(List.getElem?_eq_some_iff.1 hy).1
                simp at hlt
                have:i - ents.length=0:=by omega
                rw [this] at hy
                simp at hy
                obtain ⟨rfl,rfl⟩:=hy
                exact ⟨⟨vk,vx,clock⟩,by rw [Array.getElem?_push,if_pos (by omega)],rfl,hxd⟩)
          refine ⟨_, ?_,c1,f1⟩
          simp only [Instr.mapUpdate,Sem.run_bind,run_underlying ht,Result.andThen_ok,MapKept.run_getObj_map h2,h6,g1,MapKept.run_setObj_map _ h2]
        · obtain ⟨_,e2,_⟩:=getM_some hf hMk.good.1 hMk.good.2 g4
          rw [e2 x]
          have hjlt:j < ents.length:=(List.getElem?_eq_some_iff.1 g4).1
          obtain ⟨c1,f1⟩:=h.mapWrite (es':=es.modify j fun en=>{ en with key:=vk,val:=vx }) (clock':=clock) ho hm1 hm2 h2 (ents':=ents.set j (vk,x)) ⟨fun y hy=>by
              rcases List.mem_or_eq_of_mem_set hy with hy | rfl
              · exact hMk.good.1 y hy
              · exact hf,by
              rw [List.map_set]
              have:((ents.map (·.1)).set j vk)=ents.map (·.1):=by
                refine List.ext_getElem? fun i=>?_
                rw [List.getElem?_set]
                split
                · rename_i hji; subst hji
                  simp only [List.length_map,hjlt,if_true,List.getElem?_map,g4,Option.map_some]
                · rfl
              rw [this]; exact hMk.good.2⟩ (by simp [h3]) (by simpa using h4) (fun i k y hy=>by
              rw [List.getElem?_set] at hy
              by_cases hji:j=i
              · subst hji
                rw [if_pos rfl,if_pos hjlt] at hy
                simp only [Option.some.injEq,Prod.mk.injEq] at hy
                obtain ⟨rfl,rfl⟩:=hy
                refine ⟨{ en with key:=vk,val:=vx }, ?_,rfl,hxd⟩
                rw [Array.getElem?_modify,if_pos rfl,g2]; rfl
              · rw [if_neg hji] at hy
                obtain ⟨en',q1,q2,q3⟩:=h5 i k y hy
                exact ⟨en',by rw [Array.getElem?_modify,if_neg hji]; exact q1,q2,q3⟩)
          refine ⟨_, ?_,c1,f1⟩
          have hst:=K.stays w hl
          simp only [Instr.mapUpdate,Sem.run_bind,run_underlying ht,Result.andThen_ok,MapKept.run_getObj_map h2,h6,g1,g2,Option.map_some,Option.getD_some,g3,hst,MapKept.run_setObj_map _ h2]
      · cases hr
    · cases hr
  · cases hr
def St.mapDel (st : St) (tk : TI) (m k : AV) : Option St :=
  match m,keyV k with
  | .map id,some kv=>match look id st.objs,keySh tk,keyZ tk with
    | some (.mp d sh ents),some sh',true=>if sameSh sh' sh=true∧fitsKey sh kv=true then some { st with objs:=upd id (.mp d sh (delM kv ents)) st.objs } else none
    | _,_,_=>none
  | _,_=>none
theorem Conc.mapDel {st st' : St} {a : Act} {w : World} {e : Env} (h : Conc st a w e) {t kt et t2 rt : TypeId} (ht : P.underlying t = some (.map kt et)) {tk : TI} (hk : TIOk P kt tk) {m k : AV} {vm vk : Value} (hm : Rd w e m vm) (hkk : Rd w e k vk) (hr : st.mapDel tk m k = some st') :
    ∃ w',(Builtin.delete_ #[t,t2] rt #[vm,vk]).run P w = .ok (.tuple #[]) w'∧Conc st' a w' e∧Fr w e w' e:=by
  unfold St.mapDel at hr
  split at hr
  · rename_i id kv hkv
    split at hr
    · rename_i d sh ents sh' ho hsh hz
      split at hr
      · rename_i hc
        obtain ⟨hss,hf⟩:=hc
        cases hr
        obtain ⟨mm,b,hm1,hm2,rfl⟩:=map_inv hm fun m hm=>(h.sim.obj id _ m ho hm).ngone
        obtain rfl:=keyV_rd hkv hkk
        have hK:=(keySh_ok hk hz hsh).same hss
        have hMk:=h.sim.obj id _ mm ho hm1
        obtain ⟨b',es,clock,h1,h2,h3,h4,h5,h6,h7⟩:=mapFind hMk hK hf
        rw [hm2] at h1; cases h1
        rcases h7 with ⟨g1,g2⟩ | ⟨j,en,v,g1,g2,g3,g4,g5⟩
        · obtain ⟨_,_,e3⟩:=getM_none hf hMk.good.1 g2
          rw [e3]
          obtain ⟨c1,f1⟩:=h.mapWrite (es':=es) (clock':=clock) ho hm1 hm2 h2 (ents':=ents) hMk.good h3 h4 h5
          refine ⟨_, ?_,c1,f1⟩
          simp [Builtin.delete_,run_underlying ht,MapKept.run_getObj_map h2,h6,g1,MapKept.run_setObj_map _ h2]
        · obtain ⟨_,_,e3⟩:=getM_some hf hMk.good.1 hMk.good.2 g4
          rw [e3]
          have hjlt:j < ents.length:=(List.getElem?_eq_some_iff.1 g4).1
          obtain ⟨c1,f1⟩:=h.mapWrite (es':=es.eraseIdxIfInBounds j) (clock':=clock) ho hm1 hm2 h2 (ents':=ents.eraseIdx j) ⟨fun y hy=>hMk.good.1 y (List.mem_of_mem_eraseIdx hy),by
              exact hMk.good.2.sublist ((List.eraseIdx_sublist _ _).map _)⟩ (by
              simp only [Array.eraseIdxIfInBounds]
              rw [dif_pos (by omega),Array.size_eraseIdx,List.length_eraseIdx,if_pos hjlt,h3]) (by
              simp only [Array.eraseIdxIfInBounds]
              rw [dif_pos (by omega),Array.size_eraseIdx]; omega) (fun i k y hy=>by
              simp only [Array.eraseIdxIfInBounds]
              rw [dif_pos (by omega)]
              rw [List.getElem?_eraseIdx] at hy
              rw [Array.getElem?_eraseIdx]
              split at hy
              · rename_i hlt; rw [if_pos hlt]; exact h5 i k y hy
              · rename_i hge; rw [if_neg hge]; exact h5 (i + 1) k y hy)
          refine ⟨_, ?_,c1,f1⟩
          simp [Builtin.delete_,run_underlying ht,MapKept.run_getObj_map h2,h6,g1,MapKept.run_setObj_map _ h2]
      · cases hr
    · cases hr
  · cases hr
end
end Go.Sim
namespace Go.Sim
open Go.RowKit
section
variable {P:Program}
def AV.flat1:AV→Bool
  | .agg _=>false
  | _=>true
theorem AV.flat1_cells {x:AV} (h:x.flat1=true):x.cells=[x]:=by cases x <;> first | rfl | cases h
def St.srcC (st : St) (x : AV) : Option (List AV) :=
  match x with
  | .arr id i off len _=>match look id st.objs with
    | some (.row _ _ _ els)=>match els[i]? with
      | some y=>if off + len≤y.cells.length∧((y.cells.drop off).take len).all (fun z=>z.flat1 && z.isData)=true then some ((y.cells.drop off).take len) else none
      | none=>none
    | _=>none
  | y=>match st.srcA 1 y with
    | some l=>if l.all (fun z=>z.flat1)=true then some l else none
    | none=>none
theorem Conc.srcC {st : St} {a : Act} {w : World} {e : Env} (h : Conc st a w e) {x : AV} {vx : Value} {l : List AV} (hx : Rd w e x vx) (hr : st.srcC x = some l) : Src w e 1 l vx ∧ ∀ z ∈ l, z.flat1 = true := by
  unfold St.srcC at hr
  split at hr
  · rename_i id i off len cap
    split at hr
    · rename_i d ty s els ho
      split at hr
      · rename_i y hy
        split at hr
        · rename_i hc
          obtain ⟨hle,hall⟩:=hc
          cases hr
          simp only [List.all_eq_true,Bool.and_eq_true] at hall
          have hl:((y.cells.drop off).take len).length=len:=by simp; omega
          have hone:∀ z∈(y.cells.drop off).take len,z.cells=[z]:=fun z hz=>AV.flat1_cells (hall z hz).1
          refine ⟨?_,fun z hz=>(hall z hz).1⟩
          cases hx with
          | data hx=>cases hx
          | arrX _ _ _ _ _ m hm hg=>exact absurd hg (h.sim.obj id _ m ho hm).ngone
          | arr _ _ _ _ _ m b hm hb =>
            have hk:=h.sim.obj id _ m ho hm
            have hms:m.sz=s:=hk.hsz
            have hkb:=hk.blk
            simp only [hb] at hkb
            obtain ⟨cur,h1,h2,h3⟩:=hkb
            have hget:∀ (k:Nat) (z:AV),((y.cells.drop off).take len)[k]?=some z→y.cells[off + k]?=some z:=by
              intro k z hz
              rw [List.getElem?_take] at hz
              split at hz
              · rwa [List.getElem?_drop] at hz
              · cases hz
            refine ⟨fun z hz=>by rw [hone z hz]; rfl,.inr ?_⟩
            obtain ⟨news,n1,n2,n3,n4⟩:=flat_news (w:=w) (q:=e.q) (l:=(y.cells.drop off).take len) (sz:=1) (b:=b) (off:=i * m.sz + off) (by omega) (fun z hz=>by rw [hone z hz]; rfl) (fun k z hz j u hu=>by
              rw [hone z (List.mem_of_getElem? hz)] at hu
              cases j with
              | succ j=>simp at hu
              | zero =>
                simp at hu; subst hu
                obtain ⟨v,g1,g2,g3⟩:=h3 i y hy (off + k) z (hget k z hz)
                refine ⟨v, ?_,g2,g3.rd.toData (hall z (List.mem_of_getElem? hz)).2⟩
                rw [cell_of_row w b _ cur ty (0,0) h1,← g1,hms]; congr 1; omega)
            rw [hl,Nat.mul_one] at n1
            exact ⟨⟨b,i * m.sz + off,none⟩,cap,news,by rw [hl],by rw [hl,Nat.mul_one]; exact n1,n2,n3,n4⟩
        · cases hr
      · cases hr
    · cases hr
  · split at hr
    · rename_i l0 hl0
      split at hr
      · rename_i hall
        cases hr
        simp only [List.all_eq_true] at hall
        exact ⟨h.src (by omega) hx hl0,hall⟩
      · cases hr
    · cases hr
theorem run_copy_gen {w w' : World} {dT sT ty elem:TypeId} {a0:Addr} {dLen dCap:Nat} {a:Addr} {sLen sCap:Nat} {cs:List Value} (hu:P.underlying dT=some (.slice elem)) (hs:(P.info? elem).map (·.size)=some 1) (hn:cs.length=Nat.min sLen dLen)
    (hsrc:∀ j v,cs[j]?=some v→w.cell? (a.add j)=some v) (hst:(storeCells a0 cs).run P w = .ok () w'):(Builtin.copy_ #[dT,sT] ty #[.slice (some a0) dLen dCap,.slice (some a) sLen sCap]).run P w = .ok (goInt cs.length) w':=by
  have hl:=run_loadCells_list (P:=P) w a cs hsrc
  cases hq:P.info? elem with
  | none=>simp [hq] at hs
  | some i =>
    have hi:i.size=1:=by simpa [hq] using hs
    simp [Builtin.copy_,run_underlying hu,Builtin.lenOf,Builtin.firstCells,sizeOf,typeInfo,hq,hi,← hn,hl,hst]
theorem run_copy_zero {w:World} {dT sT ty elem:TypeId} {d a:Option Addr} {dLen dCap sLen sCap:Nat} (hu:P.underlying dT=some (.slice elem)) (hs:(P.info? elem).map (·.size)=some 1) (hn:Nat.min sLen dLen=0) :
    (Builtin.copy_ #[dT,sT] ty #[.slice d dLen dCap,.slice a sLen sCap]).run P w = .ok (goInt 0) w:=by
  cases hq:P.info? elem with
  | none=>simp [hq] at hs
  | some i =>
    have hl:∀ (x:Addr),(loadCells x 0).run P w = .ok #[] w:=fun x=>by simpa using run_loadCells_list (P:=P) w x [] (by simp)
    cases d <;> cases a <;> simp [Builtin.copy_,run_underlying hu,Builtin.lenOf,Builtin.firstCells,sizeOf,typeInfo,hq,hn,storeCells,hl]
theorem setSeg_nil (l:List AV) (off:Nat):setSeg l off []=l:=by simp [setSeg]
theorem setSeg_cons {l:List AV} {off:Nat} {x:AV} {xs:List AV} (h:off < l.length):setSeg (l.set off x) (off + 1) xs=setSeg l off (x :: xs):=by
  refine List.ext_getElem? fun i=>?_
  unfold setSeg
  have h1:(l.set off x).take (off + 1)=l.take off ++ [x]:=by
    rw [List.take_succ_eq_append_getElem (by simpa using h),List.getElem_set_self,List.take_set_of_le (Nat.le_refl _)]
  rw [h1,List.drop_set_of_lt (by omega)]
  simp only [List.append_assoc,List.singleton_append,List.cons_append,List.length_cons,List.nil_append]
  rw [show off + 1 + xs.length=off + (xs.length + 1) by omega]
theorem setCells_flat {y x:AV} (hy:y.flat1=true) (hx:x.flat1=true):y.setCells 0 [x]=some x:=by
  cases y <;> first
    | (cases hy; done)
    | (cases x <;> first | rfl | cases hx)
theorem Conc.storeSeg {id off : Nat} {ty : TypeId} {m : Mta} {b : Nat} {a : Act} : ∀ (xs : List AV) (vals : List Value) (k : Nat) (st : St) (w : World) (e : Env) (els : List AV), Conc st a w e → look id st.objs = some (.row true ty 1 els) → e.get id = some m → m.blk = some b → off + k + xs.length ≤ els.length →
    vals.length=xs.length→(∀ x∈xs,x.flat1=true)→(∀ x∈els,x.flat1=true)→(∀ (i:Nat) (z:AV) (u:Value),xs[i]?=some z→vals[i]?=some u→u.oneCell'=true∧RdD w e.q z u) →
    ∃ w',(storeCells ⟨b,off,none⟩ vals k).run P w = .ok () w'∧Conc { st with objs:=upd id (.row true ty 1 (Go.Sim.setSeg els (off + k) xs)) st.objs } a w' e∧Fr w e w' e
  | [],vals,k,st,w,e,els,h,ho,hm,hb,hle,hl,hone,hels,hv=>by
    obtain rfl:=List.eq_nil_of_length_eq_zero hl
    refine ⟨w,by simp [storeCells], ?_,Fr.refl w e⟩
    rw [setSeg_nil]
    refine ⟨⟨fun j=>?_,h.sim.inj,fun j o mj hj hmj=>?_,h.sim.prok,h.sim.new⟩,h.defers,h.size,h.tmp⟩
    · rw [look_upd]
      split
      · rename_i hj; subst hj; rw [h.sim.dom,ho]
      · exact h.sim.dom j
    · rw [look_upd] at hj
      split at hj
      · rename_i hjj; subst hjj; cases hj; exact h.sim.obj id _ mj ho hmj
      · exact h.sim.obj j o mj hj hmj
  | x :: xs,[],k,st,w,e,els,h,ho,hm,hb,hle,hl,hone,hels,hv=>by simp at hl
  | x :: xs, v :: vals, k, st, w, e, els, h, ho, hm, hb, hle, hl, hone, hels, hv => by
    have hlt:off + k < els.length:=by simp at hle; omega
    obtain ⟨v1,v2⟩:=hv 0 x v rfl rfl
    have hms:m.sz=1:=(h.sim.obj id _ m ho hm).hsz
    have hy:els[off + k]?=some els[off + k]:=List.getElem?_eq_getElem hlt
    obtain ⟨w1,r1,c1,f1⟩:=h.storeRow (P:=P) (cells:=#[v]) (xs:=[x]) (off:=0) ho hm hb hy (setCells_flat (hels _ (List.getElem_mem hlt)) (hone x (by simp))) rfl (fun j u hu=>by
        cases j with
        | zero=>simp at hu; subst hu; exact v1
        | succ j=>simp at hu) (fun j z u hz hu=>by
        cases j with
        | zero=>simp at hz hu; subst hz; subst hu; simpa [CellRd] using v2
        | succ j=>simp at hz)
    have r2:(store ((⟨b,off,none⟩:Addr).add k) v).run P w = .ok () w1:=by
      simp only [storeCells,Sem.run_bind,hms,Nat.mul_one,Nat.add_zero] at r1
      rw [addr_add] at r1 ⊢
      rw [Nat.add_zero] at r1
      cases hs:(store ⟨b,off + k,none⟩ v).run P w with
      | ok u w2=>rw [hs] at r1; simpa using r1
      | _=>rw [hs] at r1; cases r1
    obtain ⟨w2,r3,c2,f2⟩:=Conc.storeSeg (off:=off) (ty:=ty) xs vals (k + 1) _ w1 e (els.set (off + k) x) c1 (by simp [look_upd]) hm hb (by simp at hle ⊢; omega) (by simpa using hl) (fun z hz=>hone z (List.mem_cons_of_mem _ hz))
      (fun z hz=>by
        rcases List.mem_or_eq_of_mem_set hz with h | rfl
        · exact hels z h
        · exact hone _ (by simp)) (fun i z u hz hu=>by
        obtain ⟨q1,q2⟩:=hv (i + 1) z u (by simpa using hz) (by simpa using hu)
        exact ⟨q1,q2.fr f1⟩)
    refine ⟨w2, ?_, ?_,f1.trans f2⟩
    · simp only [storeCells,Sem.run_bind,r2,Result.andThen_ok,r3]
    · rw [← Nat.add_assoc,setSeg_cons hlt] at c2
      refine ⟨⟨fun j=>?_,c2.sim.inj,fun j o mj hj hmj=>?_,c2.sim.prok,c2.sim.new⟩,c2.defers,c2.size,c2.tmp⟩
      · have:=c2.sim.dom j
        simp only [look_upd] at this ⊢
        by_cases hj:id=j
        · rw [if_pos hj] at this ⊢; exact this
        · rw [if_neg hj] at this ⊢; rw [if_neg hj] at this; exact this
      · refine c2.sim.obj j o mj ?_ hmj
        simp only [look_upd] at hj ⊢
        by_cases hjj:id=j
        · rw [if_pos hjj] at hj ⊢; exact hj
        · rw [if_neg hjj] at hj ⊢; rw [if_neg hjj]; exact hj
def St.copyA (st : St) (d x : AV) : Option (AV × St) :=
  match st.srcC x with
  | some l=>match d with
    | .arr id i off len _=>match look id st.objs with
      | some (.row dd ty s els)=>match els[i]? with
        | some y=>match y.setCells off (l.take len) with
          | some y'=>some (.val (.int .i64 (l.take len).length),{ st with objs:=upd id (.row dd ty s (els.set i y')) st.objs })
          | none=>none
        | none=>none
      | _=>none
    | .own id off len=>match look id st.objs with
      | some (.row true ty s els)=>if s=1∧off + len≤els.length∧els.all (fun z=>z.flat1)=true then some (.val (.int .i64 (l.take len).length),{ st with objs:=upd id (.row true ty 1 (setSeg els off (l.take len))) st.objs }) else none
      | _=>none
    | .imm []=>some (.val (.int .i64 0),st)
    | .val (.slice none 0 0)=>some (.val (.int .i64 0),st)
    | _=>none
  | none=>none
theorem Conc.copyA {st st' : St} {a : Act} {w : World} {e : Env} (h : Conc st a w e) {t t' el rt : TypeId} {ti te : TI} (hti : TIOk P t ti) (hd : ti.desc = .slice el) (hte : TIOk P el te) (h1 : te.size = 1) {d x r : AV} {vd vx : Value} (hdr : Rd w e d vd) (hxr : Rd w e x vx) (hr : st.copyA d x = some (r, st')) :
    ∃ v w' e',(Builtin.copy_ #[t,t'] rt #[vd,vx]).run P w = .ok v w'∧Conc st' a w' e'∧Fr w e w' e'∧Rd w' e' r v:=by
  have hu:P.underlying t=some (.slice el):=by rw [hti.und,hd]
  have hs:(P.info? el).map (·.size)=some 1:=by
    obtain ⟨k,hk,hks,_⟩:=hte.parts
    rw [hk]; simp [hks,h1]
  unfold St.copyA at hr
  split at hr
  · rename_i l hl
    obtain ⟨hsrc,hflat⟩:=h.srcC hxr hl
    have hone:∀ z∈l,z.cells=[z]:=fun z hz=>AV.flat1_cells (hflat z hz)
    have zero:∀ (b0:Option Addr) (dl dc:Nat),vd = .slice b0 dl dc→Nat.min l.length dl=0→(Builtin.copy_ #[t,t'] rt #[vd,vx]).run P w = .ok (goInt 0) w:=by
      intro b0 dl dc hvd hz
      subst hvd
      rcases hsrc.val with ⟨h0,a1,c1,rfl⟩ | ⟨ad,c1,news,rfl,_⟩
      · exact run_copy_zero hu hs (by simp)
      · exact run_copy_zero hu hs hz
    have cut:∀ (dl:Nat),l.take dl≠[]→∃ ad c1,∃ cs:List Value,vx = .slice (some ad) l.length c1∧cs.length=Nat.min l.length dl∧cs.length=(l.take dl).length∧(∀ (j:Nat) (u:Value),cs[j]?=some u→w.cell? (ad.add j)=some u) ∧
        ∀ (i:Nat) (z:AV) (u:Value),(l.take dl)[i]?=some z→cs[i]?=some u→u.oneCell'=true∧RdD w e.q z u:=by
      intro dl hne
      rcases hsrc.val with ⟨h0,_⟩ | ⟨ad,c1,news,hvx,n1,n2,n3,n4⟩
      · rw [h0] at hne; simp at hne
      · refine ⟨ad,c1,news.take dl,hvx, ?_, ?_,fun j u hj=>?_,fun i z u hz hu=>?_⟩
        · rw [List.length_take,n1,Nat.mul_one]; exact Nat.min_comm _ _
        · rw [List.length_take,List.length_take,n1,Nat.mul_one]
        · rw [List.getElem?_take] at hj
          split at hj
          · exact n2 j u hj
          · cases hj
        · rw [List.getElem?_take] at hz hu
          split at hz
          · rename_i hlt
            rw [if_pos hlt] at hu
            obtain ⟨v,g1,g2,g3⟩:=n4 i z hz 0 z (by rw [hone z (List.mem_of_getElem? hz)]; rfl)
            rw [Nat.mul_one,Nat.add_zero,hu] at g1
            cases g1
            exact ⟨g2,g3⟩
          · cases hz
    split at hr
    · rename_i id i off len cap
      split at hr
      · rename_i dd ty s els ho
        split at hr
        · rename_i y hy
          split at hr
          · rename_i y' hy'
            cases hr
            cases hdr with
            | data hx=>cases hx
            | arrX _ _ _ _ _ m hm hg=>exact absurd hg (h.sim.obj id _ m ho hm).ngone
            | arr _ _ _ _ _ m b hm hb =>
              by_cases hne:l.take len=[]
              · rw [hne] at hy' ⊢
                have hz:=zero _ len cap rfl (by
                  have:=congrArg List.length hne
                  rw [List.length_take] at this; simpa [Nat.min_comm] using this)
                obtain ⟨w1,r1,c1,f1⟩:=h.storeRow (P:=P) (cells:=#[]) ho hm hb hy hy' rfl (fun j u hu=>by simp at hu) (fun j z u hz hu=>by simp at hu)
                simp only [storeCells] at r1
                cases r1
                exact ⟨_,_,e,hz,c1,f1,.data (.val _)⟩
              · obtain ⟨ad,c1,cs,rfl,k1,k2,k3,k4⟩:=cut len hne
                obtain ⟨w1,r1,c1,f1⟩:=h.storeRow (P:=P) (cells:=cs.toArray) ho hm hb hy hy' (by simpa using k2) (fun j u hu=>by
                    have hu' : cs[j]?=some u:=by simpa using hu
                    have hj:j < (l.take len).length:=by rw [← k2]; exact (List.getElem?_eq_some_iff.1 hu').1
                    exact (k4 j _ u (List.getElem?_eq_getElem hj) hu').1) (fun j z u hz hu=>by
                    have hu' : cs[j]?=some u:=by simpa using hu
                    have:=(k4 j z u hz hu').2
                    cases dd with
                    | true=>simpa [CellRd] using this
                    | false=>simpa [CellRd] using Rd.data this)
                refine ⟨_,w1,e,run_copy_gen hu hs k1 k3 (by simpa using r1),c1,f1, ?_⟩
                rw [k2]; exact .data (.val _)
          · cases hr
        · cases hr
      · cases hr
    · rename_i id off len
      split at hr
      · rename_i ty s els ho
        split at hr
        · rename_i hc
          obtain ⟨rfl,hle,hall⟩:=hc
          simp only [List.all_eq_true] at hall
          cases hr
          by_cases hne:l.take len=[]
          · rw [hne,setSeg_nil]
            have hself:Conc { st with objs:=upd id (.row true ty 1 els) st.objs } a w e:=by
              refine ⟨⟨fun j=>?_,h.sim.inj,fun j o mj hj hmj=>?_,h.sim.prok,h.sim.new⟩,h.defers,h.size,h.tmp⟩
              · rw [look_upd]
                split
                · rename_i hj; subst hj; rw [h.sim.dom,ho]
                · exact h.sim.dom j
              · rw [look_upd] at hj
                split at hj
                · rename_i hjj; subst hjj; cases hj; exact h.sim.obj id _ mj ho hmj
                · exact h.sim.obj j o mj hj hmj
            have hmin:Nat.min l.length len=0:=by
              have:=congrArg List.length hne
              rw [List.length_take] at this; simpa [Nat.min_comm] using this
            have hvd:∃ b0 dc,vd = .slice b0 len dc:=by
              cases hdr with
              | data hx=>cases hx
              | own0 _ m hm hb a=>exact ⟨a,0,rfl⟩
              | own _ _ _ m b hm hb hc=>exact ⟨_,_,rfl⟩
              | ownX _ _ _ m hm hg a cap=>exact ⟨a,cap,rfl⟩
            obtain ⟨b0,dc,rfl⟩:=hvd
            exact ⟨_,w,e,zero b0 len dc rfl hmin,hself,Fr.refl w e,.data (.val _)⟩
          · cases hdr with
            | data hx=>cases hx
            | own0 _ m hm hb a=>simp at hne
            | ownX _ _ _ m hm hg=>exact absurd hg (h.sim.obj id _ m ho hm).ngone
            | own _ _ _ m b hm hb hc =>
              have hms:m.sz=1:=(h.sim.obj id _ m ho hm).hsz
              obtain ⟨ad,c1,cs,rfl,k1,k2,k3,k4⟩:=cut len hne
              have hlt:(l.take len).length≤len:=by rw [List.length_take]; exact Nat.min_le_left _ _
              obtain ⟨w1,r1,c1,f1⟩:=Conc.storeSeg (P:=P) (off:=off) (l.take len) cs 0 st w e els h ho hm hb (by omega) k2 (fun z hz=>hflat z (List.mem_of_mem_take hz)) hall k4
              rw [Nat.add_zero] at c1
              refine ⟨_,w1,e,run_copy_gen hu hs k1 k3 (by rw [hms,Nat.mul_one]; exact r1),c1,f1, ?_⟩
              rw [k2]; exact .data (.val _)
        · cases hr
      · cases hr
    · cases hr
      cases hdr with
      | data hx =>
        cases hx with
        | imm0 a cap=>exact ⟨_,w,e,zero _ 0 cap rfl (by simp),h,Fr.refl w e,.data (.val _)⟩
        | imm _ b off cap sz vals hne=>exact absurd rfl hne
    · cases hr
      obtain rfl:=hdr.val_inv
      exact ⟨_,w,e,zero none 0 0 rfl (by simp),h,Fr.refl w e,.data (.val _)⟩
    · cases hr
  · cases hr
end
attribute [simp] AV.flat1 St.srcC St.copyA
end Go.Sim
namespace Go.Sim
open Go.RowKit
section
variable {P:Program} {Γ:TypeId→Option TI}
/-! ### single operations -/
def unA (op:UnOp) (x:AV):Option AV:=
  match op,x with
  | .not,.val (.bool b)=>some (.val (.bool !b))
  | .neg,.val (.int k n)=>some (.val (.int k (k.wrap (0 - n))))
  | _,_=>none
def convA (Γ:TypeId→Option TI) (src dst:TypeId) (x:AV):Option AV:=
  match Γ src,Γ dst,x with
  | some _,some ⟨_,_,_,.int k,_,_⟩,.val (.int _ n)=>some (.val (.int k (k.wrap n)))
  | some _,some ⟨_,_,_,.string,_,_⟩,.val (.string s)=>some (.val (.string s))
  | _,_,_=>none
def strIndexA (x ix:AV):Option AV:=
  match x,ix with
  | .val (.string s),.val (.int _ n)=>if 0≤n then (s[n.toNat]?).map fun b=>.val (.int .u8 b.toNat) else none
  | _,_=>none
def arrIndexA (te:TI) (n:Nat) (x ix:AV):Option AV:=
  match x,ix with
  | .agg l,.val (.int _ k)=>if 0≤k∧k < n then loadCellsA te l (k.toNat * te.size) else none
  | _,_=>none
def sliceS (sz : Nat) (objs : List (Nat × Obj)) (x : AV) (lo hi : Option AV) : Option AV :=
  match x with
  | .own id off len=>match look id objs with
    | some (.row _ _ s _)=>if s=sz then sliceA (.own id off len) lo hi else none
    | _=>none
  | .imm l=>if l.all (fun y=>y.cells.length == sz)=true then sliceA (.imm l) lo hi else none
  | .val (.slice none 0 0)=>sliceA (.val (.slice none 0 0)) lo hi
  | _=>none
def slotId (o:Oper):Option Nat:=match o.dst with
  | some d=>if d < 1250 then some (8 * d) else none
  | none=>none
noncomputable def evalP0 (Γ:TypeId→Option TI) (o:Oper) (st:St):Option AV:=
  match o.op with
  | .move x=>some (st.ev x)
  | .assign x=>some (st.ev x)
  | .pick c a b=>match st.ev c with
    | .val (.bool t)=>some (if t then st.ev a else st.ev b)
    | _=>none
  | .nilCheck x=>match st.ev x with
    | .ptr id i off=>some (.ptr id i off)
    | .iptr l=>some (.iptr l)
    | _=>none
  | .load t x=>match Γ t with
    | some ti=>loadA ti st.objs (st.ev x)
    | none=>none
  | .build t parts=>match Γ t with
    | some ti=>buildA Γ ti (parts.toList.map fun p=>(p.1,st.ev p.2))
    | none=>none
  | .fieldAddr s x f=>match Γ s with
    | some ⟨_,_,_,.struct fs,_,_⟩=>match fs[f]? with
      | some fl=>match Γ fl.type with
        | some tf=>fieldAddrA fl.offset tf.size (st.ev x)
        | none=>none
      | none=>none
    | _=>none
  | .field s x f=>match Γ s with
    | some ⟨_,_,_,.struct fs,_,_⟩=>match fs[f]?,st.ev x with
      | some fl,.agg l=>match Γ fl.type with
        | some tf=>loadCellsA tf l fl.offset
        | none=>none
      | _,_=>none
    | _=>none
  | .indexAddr t x ix=>match Γ t with
    | some ti=>match Γ (elemD ti.desc) with
      | some te=>indexA ti te st.objs (st.ev x) (st.ev ix)
      | none=>none
    | none=>none
  | .index t x ix=>match Γ t with
    | some ⟨_,_,_,.string,_,_⟩=>strIndexA (st.ev x) (st.ev ix)
    | some ⟨_,_,_,.array n el,_,_⟩=>match Γ el with
      | some te=>arrIndexA te n (st.ev x) (st.ev ix)
      | none=>none
    | _=>none
  | .slice t x lo hi none=>match Γ t with
    | some ⟨_,_,_,.slice el,_,_⟩=>match Γ el with
      | some te=>sliceS te.size st.objs (st.ev x) (lo.map st.ev) (hi.map st.ev)
      | none=>none
    | some ⟨_,_,_,.string,_,_⟩=>(match st.ev x with
      | .val (.string s)=>sliceA (.val (.string s)) (lo.map st.ev) (hi.map st.ev)
      | _=>none)
    | some ⟨_,_,_,.array n el,_,_⟩=>match Γ el with
      | some te=>if te.size=1 then sliceR n (st.ev x) (lo.map st.ev) (hi.map st.ev) else none
      | none=>none
    | _=>none
  | .extract x i=>match st.ev x with
    | .tup l=>l[i]?
    | _=>none
  | .binOp op t x y _=>binB (Γ t) op (st.ev x) (st.ev y) y
  | .unOp op _ x=>unA op (st.ev x)
  | .convert s d x=>convA Γ s d (st.ev x)
  | .makeFunc (.func f) first cap=>if first = #[] then some (.clo f (cap.toList.map st.ev)) else if cap = #[] then some (.mth f (first.toList.map st.ev)) else none
  | .call { callee:=.builtin b,args,argTypes }=>match b,args.toList,argTypes.toList with
    | .len,[x],[t]=>match Γ t with
      | some ti=>lenA ti (st.ev x)
      | none=>none
    | .min,x :: r,_=>match st.ev x with
      | .val v=>(minA false v (r.map st.ev)).map .val
      | _=>none
    | .max,x :: r,_=>match st.ev x with
      | .val v=>(minA true v (r.map st.ev)).map .val
      | _=>none
    | _,_,_=>none
  | _=>none
noncomputable def evalW0 (Γ:TypeId→Option TI) (o:Oper) (st:St):Option (AV×St):=
  match o.op with
  | .store t p x=>match Γ t with
    | some ti=>(st.storeAt ti.size (st.ev p) (st.ev x)).map fun s=>(.dead,s)
    | none=>none
  | .alloc el=>match Γ el,slotId o with
    | some ti,some id=>st.box id el (zeroA ti.zero)
    | _,_=>none
  | .box el x=>match slotId o with
    | some id=>st.box id el (st.ev x)
    | none=>none
  | .buildSlice t len parts=>match Γ t,slotId o with
    | some ⟨_,_,_,.slice el,_,_⟩,some id=>match Γ el with
      | some te=>st.buildSlice te el id len (parts.toList.map fun p=>(p.1,st.ev p.2))
      | none=>none
    | _,_=>none
  | .makeSlice t l c=>match Γ t,slotId o with
    | some ⟨_,_,_,.slice el,_,_⟩,some id=>match Γ el with
      | some te=>st.makeSlice te el id (st.ev l) (st.ev c)
      | none=>none
    | _,_=>none
  | .call { callee:=.builtin b,args,argTypes }=>match b,args.toList,argTypes.toList with
    | .append,[s,x],[t,t']=>if t=t' then (match Γ t,slotId o with
      | some ⟨_,_,_,.slice ty,_,_⟩,some id=>match Γ ty with
        | some te=>st.appendA te ty id (st.ev s) (st.ev x)
        | none=>none
      | _,_=>none) else none
    | _,_,_=>none
  | _=>none
def mapT (Γ : TypeId → Option TI) (t : TypeId) : Option (TI × TI) :=
  match Γ t with
  | some ⟨_,_,_,.map kt et,_,_⟩=>match Γ kt,Γ et with
    | some tk,some te=>some (tk,te)
    | _,_=>none
  | _=>none
noncomputable def evalP (Γ:TypeId→Option TI) (o:Oper) (st:St):Option AV:=
  match o.op with
  | .lookup t m k ok=>match mapT Γ t with
    | some (tk,te)=>lookupA tk te st.objs (st.ev m) (st.ev k) ok
    | none=>none
  | .call { callee:=.builtin .len,args,argTypes }=>match args.toList,argTypes.toList with
    | [x],[t]=>match mapT Γ t with
      | some _=>lenM st.objs (st.ev x)
      | none=>evalP0 Γ o st
    | _,_=>none
  | _=>evalP0 Γ o st
noncomputable def evalW (Γ:TypeId→Option TI) (o:Oper) (st:St):Option (AV×St):=
  match o.op with
  | .makeMap t none=>match mapT Γ t,slotId o with
    | some (tk,_),some id=>st.makeMap tk id
    | _,_=>none
  | .mapUpdate t m k x=>match mapT Γ t with
    | some (tk,_)=>(st.mapSet tk (st.ev m) (st.ev k) (st.ev x)).map fun s=>(.dead,s)
    | none=>none
  | .call { callee:=.builtin .delete,args,argTypes }=>match args.toList,argTypes.toList with
    | [m,k],[t,_]=>match mapT Γ t with
      | some (tk,_)=>(st.mapDel tk (st.ev m) (st.ev k)).map fun s=>(.dead,s)
      | none=>none
    | _,_=>none
  | .call { callee:=.builtin .copy,args,argTypes }=>match args.toList,argTypes.toList with
    | [d,x],[t,_]=>match Γ t with
      | some ⟨_,_,_,.slice el,_,_⟩=>match Γ el with
        | some te=>if te.size=1 then st.copyA (st.ev d) (st.ev x) else none
        | none=>none
      | _=>none
    | _,_=>none
  | _=>evalW0 Γ o st
def isWrite (o:Oper):Bool:=
  match o.op with
  | .store .. | .alloc _ | .box .. | .buildSlice .. | .makeSlice .. | .makeMap .. | .mapUpdate ..=>true
  | .call { callee:=.builtin .delete,.. }=>true
  | .call { callee:=.builtin .append,.. }=>true
  | .call { callee:=.builtin .copy,.. }=>true
  | _=>false
noncomputable def evalAll (Γ:TypeId→Option TI) (o:Oper) (st:St):Option (AV×St):=
  match isWrite o with
  | true=>evalW Γ o st
  | false=>match evalP Γ o st with
    | some r=>some (r,st)
    | none=>none
def StepsTo (P:Program) (o:Oper) (a:Act) (w:World) (v:Value) (w' : World):Prop:=
  (execOp a.eval o).run P w = .ok (.value v) w'∨((execOp a.eval o).run P w = .ok .skip w'∧v=undef)
def OpOk (P:Program) (o:Oper) (st' : St) (r:AV) (a:Act) (w:World) (e:Env):Prop:=
  ∃ v w' e',StepsTo P o a w v w'∧Conc st' a w' e'∧Fr w e w' e'∧Rd w' e' r v
structure View (st:St) (a:Act) (w:World) (e:Env):Prop where
  ev:∀ o,Rd w e (st.ev o) (a.eval o)
  obj:∀ id o m,look id st.objs=some o→e.get id=some m→ObjOk w e m o
theorem Conc.view {st:St} {a:Act} {w:World} {e:Env} (h:Conc st a w e):View st a w e:=⟨h.ev,h.sim.obj⟩
def PureOk (P:Program) (o:Oper) (r:AV) (a:Act) (w:World) (e:Env):Prop:=∃ v,(execOp a.eval o).run P w = .ok (.value v) w∧Rd w e r v
theorem PureOk.mk {o:Oper} {r:AV} {a:Act} {w:World} {e:Env} {s:Sem Value} {v:Value} (hx:execOp a.eval o=(do pure (Next.value (← s)))) (hs:s.run P w = .ok v w) (hr:Rd w e r v):PureOk P o r a w e:=
  ⟨v,by rw [hx]; simp [hs],hr⟩
theorem map_rd {st:St} {a:Act} {w:World} {e:Env} (h:View st a w e) (xs:List Operand):∀ (i:Nat) (x:AV) (v:Value),(xs.map st.ev)[i]?=some x→(xs.map a.eval)[i]?=some v→Rd w e x v:=by
  intro i x v hx hv
  rw [List.getElem?_map] at hx hv
  cases hi:xs[i]? with
  | none=>rw [hi] at hx; simp at hx
  | some y=>rw [hi] at hx hv; simp at hx hv; subst hx; subst hv; exact h.ev y
theorem parts_rd {st:St} {a:Act} {w:World} {e:Env} (h:View st a w e) (ps:List (Nat×Operand)):∀ (i:Nat) (p:Nat×AV) (q:Nat×Value),(ps.map fun p=>(p.1,st.ev p.2))[i]?=some p→(ps.map fun p=>(p.1,a.eval p.2))[i]?=some q→p.1=q.1∧Rd w e p.2 q.2:=by
  intro i p q hp hq
  rw [List.getElem?_map] at hp hq
  cases hi:ps[i]? with
  | none=>rw [hi] at hp; simp at hp
  | some y=>rw [hi] at hp hq; simp at hp hq; subst hp; subst hq; exact ⟨rfl,h.ev y.2⟩
theorem iptr_inv {w:World} {e:Env} {l:List AV} {v:Value} (h:Rd w e (.iptr l) v):∃ b off,v = .pointer (some ⟨b,off,none⟩):=by
  cases h with
  | data h=>cases h
  | iptr _ b off vals hne hq hc hr=>exact ⟨b,off,rfl⟩
theorem optRd {st:St} {a:Act} {w:World} {e:Env} (h:View st a w e) (x:Option Operand):OptRd w e (x.map st.ev) (x.map a.eval):=by
  cases x with
  | none=>trivial
  | some y=>exact h.ev y
theorem evalP0_ok (hΓ:TOk P Γ) {o:Oper} {st:St} {r:AV} (hr:evalP0 Γ o st=some r) {a:Act} {w:World} {e:Env} (h:View st a w e):PureOk P o r a w e:=by
  unfold evalP0 at hr
  split at hr
  · rename_i x ho
    cases hr
    exact ⟨a.eval x,by simp [execOp,ho],h.ev x⟩
  · rename_i x ho
    cases hr
    exact ⟨a.eval x,by simp [execOp,ho],h.ev x⟩
  · rename_i c x y ho
    split at hr
    · rename_i t hc
      cases hr
      have h1:=h.ev c
      rw [hc] at h1
      have h2:=h1.val_inv
      refine ⟨if t then a.eval x else a.eval y,by cases t <;> simp [execOp,ho,h2,asBool], ?_⟩
      cases t
      · exact h.ev y
      · exact h.ev x
    · cases hr
  · rename_i x ho
    split at hr
    · rename_i id i off hx
      cases hr
      have h1:=h.ev x
      rw [hx] at h1
      obtain ⟨ad,hv⟩:=ptr_some h1
      exact ⟨a.eval x,by simp [execOp,ho,hv],h1⟩
    · rename_i l hx
      cases hr
      have h1:=h.ev x
      rw [hx] at h1
      obtain ⟨b,off,hv⟩:=iptr_inv h1
      exact ⟨a.eval x,by simp [execOp,ho,hv],h1⟩
    · cases hr
  · rename_i t x ho
    split at hr
    · rename_i ti ht
      obtain ⟨v,h1,h2⟩:=run_loadA (hΓ _ _ ht) h.obj (h.ev x) hr
      exact .mk (s:=Instr.loadAt t (a.eval x)) (by simp [execOp,ho]) h1 h2
    · cases hr
  · rename_i t parts ho
    split at hr
    · rename_i ti ht
      obtain ⟨v,h1,h2⟩:=run_buildA hΓ (hΓ _ _ ht) (w:=w) (e:=e) (vparts:=parts.toList.map fun p=>(p.1,a.eval p.2)) (by simp) (parts_rd h parts.toList) hr
      refine .mk (s:=Instr.build t (parts.toList.map fun p=>(p.1,a.eval p.2)).toArray) ?_ h1 h2
      simp only [execOp,ho]
      congr 3
      apply Array.ext'; simp
    · cases hr
  · rename_i s x f ho
    split at hr
    · rename_i s1 s2 s3 fs s4 ht
      split at hr
      · rename_i fl hf
        split at hr
        · rename_i tf htf
          obtain ⟨v,h1,h2⟩:=run_fieldAddrA (hΓ _ _ ht) rfl hf (hΓ _ _ htf) (h.ev x) hr
          exact .mk (s:=Instr.fieldAt s (a.eval x) f) (by simp [execOp,ho]) h1 h2
        · cases hr
      · cases hr
    · cases hr
  · rename_i s x f ho
    split at hr
    · rename_i s1 s2 s3 fs s4 ht
      split at hr
      · rename_i fl l hf hx
        split at hr
        · rename_i tf htf
          have h1:=h.ev x
          rw [hx] at h1
          obtain ⟨vs,hv,hs,hvr⟩:=h1.agg_inv
          obtain ⟨v,h1,h2⟩:=run_partA (hΓ _ _ htf) hs hvr hr
          have hu:=run_und (hΓ _ _ ht) w
          refine .mk (s:=Instr.field s (a.eval x) f) (by simp [execOp,ho]) ?_ h2
          simp [Instr.field,hu,hf,hv,asAgg,h1]
        · cases hr
      · cases hr
    · cases hr
  · rename_i t x ix ho
    split at hr
    · rename_i ti ht
      split at hr
      · rename_i te hte
        obtain ⟨v,h1,h2⟩:=run_indexA (hΓ _ _ ht) (hΓ _ _ hte) h.obj (h.ev x) (h.ev ix) hr
        exact .mk (s:=Instr.indexAt t (a.eval x) (a.eval ix)) (by simp [execOp,ho]) h1 h2
      · cases hr
    · cases hr
  · rename_i t x ix ho
    split at hr
    · rename_i s1 s2 s3 s4 ht
      unfold strIndexA at hr
      split at hr
      · rename_i s k n hx hi
        split at hr
        · rename_i hn
          obtain ⟨b,hb,rfl⟩:=Option.map_eq_some_iff.1 hr
          have h1:=h.ev x
          rw [hx] at h1
          have h2:=h.ev ix
          rw [hi] at h2
          have e1:=h1.val_inv
          have e2:=h2.val_inv
          refine .mk (s:=Instr.index t (a.eval x) (a.eval ix)) (v:=.int .u8 b.toNat) (by simp [execOp,ho]) ?_ (.data (.val _))
          simp [Instr.index,asIntOf,e1,e2,run_und (hΓ _ _ ht),hn,hb]
        · cases hr
      · cases hr
    · rename_i s1 s2 s3 n el s4 ht
      split at hr
      · rename_i te hte
        unfold arrIndexA at hr
        split at hr
        · rename_i l q k hx hi
          split at hr
          · rename_i hn
            have h1:=h.ev x
            rw [hx] at h1
            have h2:=h.ev ix
            rw [hi] at h2
            have e2:=h2.val_inv
            obtain ⟨vs,hv,hs,hvr⟩:=h1.agg_inv
            obtain ⟨v,k1,k2⟩:=run_partA (hΓ _ _ hte) hs hvr hr
            refine .mk (s:=Instr.index t (a.eval x) (a.eval ix)) (v:=v) (by simp [execOp,ho]) ?_ k2
            simp only [Instr.index,Sem.run_bind,hv,e2,asIntOf,Sem.run_pure,Result.andThen_ok,run_und (hΓ _ _ ht),if_pos hn,run_size (hΓ _ _ hte),k1]
          · cases hr
        · cases hr
      · cases hr
    · cases hr
  · rename_i t x lo hi ho
    split at hr
    · rename_i s1 s2 s3 el s4 s5 ht
      split at hr
      · rename_i te hte
        unfold sliceS at hr
        have key:∀ X:AV,st.ev x=X→(∀ id off len m,X = .own id off len→e.get id=some m→m.sz=te.size)→(∀ l y,X = .imm l→l[0]?=some y→y.cells.length=te.size)→(∀ s,X≠.val (.string s))→sliceA X (lo.map st.ev) (hi.map st.ev)=some r→PureOk P o r a w e:=by
          intro X hX g1 g2 g3 g4
          obtain ⟨v,h1,h2⟩:=run_sliceA (hΓ _ _ ht) (.inl ⟨el,rfl⟩) (te:=te) (fun el' hel=>by cases hel; exact hΓ _ _ hte) (hX ▸ h.ev x) (optRd h lo) (optRd h hi) g1 g2 g4 (by
            split
            · exact absurd rfl (g3 _)
            · exact ⟨el,rfl⟩)
          exact .mk (s:=Instr.sliceAt t (a.eval x) (lo.map a.eval) (hi.map a.eval) none) (by simp [execOp,ho]) h1 h2
        split at hr
        · rename_i id off len hx
          split at hr
          · rename_i dd ty s els hl
            split at hr
            · rename_i hs
              refine key _ hx (fun id' off' len' m he hm=>?_) (fun l y he=>by cases he) (fun s he=>by cases he) hr
              cases he
              have:=(h.obj id _ m hl hm).hsz
              rw [this,hs]
            · cases hr
          · cases hr
        · rename_i l hx
          split at hr
          · rename_i hall
            simp only [List.all_eq_true,beq_iff_eq] at hall
            refine key _ hx (fun id' off' len' m he=>by cases he) (fun l' y he hy=>?_) (fun s he=>by cases he) hr
            cases he
            exact hall y (List.mem_of_getElem? hy)
          · cases hr
        · rename_i hx
          exact key _ hx (fun id' off' len' m he=>by cases he) (fun l y he=>by cases he) (fun s he=>by cases he) hr
        · cases hr
      · cases hr
    · rename_i s1 s2 s3 s4 ht
      split at hr
      · rename_i s hx
        obtain ⟨v,h1,h2⟩:=run_sliceA (hΓ _ _ ht) (.inr rfl) (te:=⟨0,0,.nilFunc,.bool,false,false⟩) (fun el' hel=>by cases hel) (hx ▸ h.ev x) (optRd h lo) (optRd h hi) (fun id off len m he=>by cases he) (fun l y he=>by cases he) hr rfl
        exact .mk (s:=Instr.sliceAt t (a.eval x) (lo.map a.eval) (hi.map a.eval) none) (by simp [execOp,ho]) h1 h2
      · cases hr
    · rename_i s1 s2 s3 n el s4 ht
      split at hr
      · rename_i te hte
        split at hr
        · rename_i hsz
          obtain ⟨v,h1,h2⟩:=run_sliceR (hΓ _ _ ht) rfl (hΓ _ _ hte) hsz (h.ev x) (optRd h lo) (optRd h hi) hr
          exact .mk (s:=Instr.sliceAt t (a.eval x) (lo.map a.eval) (hi.map a.eval) none) (by simp [execOp,ho]) h1 h2
        · cases hr
      · cases hr
    · cases hr
  · rename_i x i ho
    split at hr
    · rename_i l hx
      have h1:=h.ev x
      rw [hx] at h1
      obtain ⟨vs,hv,hs,hvr⟩:=h1.tup_inv
      have hi:i < vs.size:=by rw [hs]; exact (List.getElem?_eq_some_iff.1 hr).1
      refine .mk (s:=Instr.extract (a.eval x) i) (v:=vs[i]) (by simp [execOp,ho]) ?_ (hvr i _ _ hr (Array.getElem?_eq_getElem hi))
      simp [Instr.extract,hv,Array.getElem?_eq_getElem hi]
    · cases hr
  · rename_i op t x y yt ho
    obtain ⟨v,h1,h2⟩:=run_binB (P:=P) (t:=t) (fun i hi=>hΓ t i hi) x y (h.ev x) (h.ev y) hr
    exact .mk (s:=(do eqGuard op t x y (a.eval x) (a.eval y); binOp op t (a.eval x) (a.eval y))) (by simp [execOp,ho]) h1 h2
  · rename_i op t x ho
    unfold unA at hr
    split at hr
    · rename_i b hx
      cases hr
      have h1:=h.ev x
      rw [hx] at h1
      have e1:=h1.val_inv
      exact .mk (s:=Op.unary .not (a.eval x)) (v:=.bool !b) (by simp [execOp,ho]) (by simp [Op.unary,e1]) (.data (.val _))
    · rename_i k n hx
      cases hr
      have h1:=h.ev x
      rw [hx] at h1
      have e1:=h1.val_inv
      exact .mk (s:=Op.unary .neg (a.eval x)) (v:=.int k (k.wrap (0 - n))) (by simp [execOp,ho]) (by simp [Op.unary,e1,Op.intArith]) (.data (.val _))
    · cases hr
  · rename_i s d x ho
    unfold convA at hr
    split at hr
    · rename_i ts s1 s2 s3 k s4 s5 kk n hs hd hx
      cases hr
      have h1:=h.ev x
      rw [hx] at h1
      have e1:=h1.val_inv
      refine .mk (s:=convert s d (a.eval x)) (v:=.int k (k.wrap n)) (by simp [execOp,ho]) ?_ (.data (.val _))
      have hds:=run_und (hΓ _ _ hs) w
      simp only [convert,Sem.run_bind,hds,Result.andThen_ok,run_und (hΓ _ _ hd),e1]
      cases ts.desc <;> simp [Conv.intToInt]
    · rename_i ts s1 s2 s3 s4 s5 str hs hd hx
      cases hr
      have h1:=h.ev x
      rw [hx] at h1
      have e1:=h1.val_inv
      refine .mk (s:=convert s d (a.eval x)) (v:=.string str) (by simp [execOp,ho]) ?_ (.data (.val _))
      have hds:=run_und (hΓ _ _ hs) w
      simp only [convert,Sem.run_bind,hds,Result.andThen_ok,run_und (hΓ _ _ hd),e1]
      cases ts.desc <;> simp
    · cases hr
  · rename_i f first cap ho
    split at hr
    · rename_i hf
      cases hr
      subst hf
      refine .mk (s:=Instr.makeFunc (.func f) #[] (cap.map a.eval)) (v:=.func (.func f) #[] (cap.map a.eval)) (by simp [execOp,ho]) rfl ?_
      refine .clo f _ _ (by simp) fun i x v hx hv=>map_rd h cap.toList i x v hx ?_
      simpa using hv
    · split at hr
      · rename_i hf
        cases hr
        subst hf
        refine .mk (s:=Instr.makeFunc (.func f) (first.map a.eval) #[]) (v:=.func (.func f) (first.map a.eval) #[]) (by simp [execOp,ho]) rfl ?_
        refine .mth f _ _ (by simp) fun i x v hx hv=>map_rd h first.toList i x v hx ?_
        simpa using hv
      · cases hr
  · rename_i b args tys ho
    have hA:args=args.toList.toArray:=by simp
    have hT:tys=tys.toList.toArray:=by simp
    generalize args.toList=al at hr hA
    generalize tys.toList=tl at hr hT
    subst hA; subst hT
    split at hr
    · rename_i x t
      split at hr
      · rename_i ti ht
        obtain ⟨v,h1,h2⟩:=run_lenA (hΓ _ _ ht) (h.ev x) hr o.type
        exact ⟨v,by simp [execOp,ho,resolve,invoke,builtin,h1],h2⟩
      · cases hr
    · rename_i _ x rest
      split at hr
      · rename_i v hx
        obtain ⟨r',hr',rfl⟩:=Option.map_eq_some_iff.1 hr
        have h1:=h.ev x
        rw [hx] at h1
        have e1:=h1.val_inv
        have:=run_minA (P:=P) (w:=w) (e:=e) false (rest.map st.ev) (rest.map a.eval) v r' (by simp) (map_rd h rest) hr'
        simp only [Bool.false_eq_true,if_false] at this
        exact ⟨r',by simp [execOp,ho,resolve,invoke,builtin,Builtin.min_,e1,this],.data (.val _)⟩
      · cases hr
    · rename_i _ x rest
      split at hr
      · rename_i v hx
        obtain ⟨r',hr',rfl⟩:=Option.map_eq_some_iff.1 hr
        have h1:=h.ev x
        rw [hx] at h1
        have e1:=h1.val_inv
        have:=run_minA (P:=P) (w:=w) (e:=e) true (rest.map st.ev) (rest.map a.eval) v r' (by simp) (map_rd h rest) hr'
        simp only [if_true] at this
        exact ⟨r',by simp [execOp,ho,resolve,invoke,builtin,Builtin.max_,e1,this],.data (.val _)⟩
      · cases hr
    · cases hr
  · cases hr
theorem mapT_inv (hΓ:TOk P Γ) {t:TypeId} {tk te:TI} (h:mapT Γ t=some (tk,te)):∃ kt et,P.underlying t=some (.map kt et)∧TIOk P kt tk∧TIOk P et te:=by
  unfold mapT at h
  split at h
  · rename_i a b c kt et d d2 ht
    split at h
    · rename_i x y hk he
      cases h
      exact ⟨kt,et,(hΓ _ _ ht).und,hΓ _ _ hk,hΓ _ _ he⟩
    · cases h
  · cases h
theorem evalP_ok (hΓ : TOk P Γ) {o : Oper} {st : St} {r : AV} (hr : evalP Γ o st = some r) {a : Act} {w : World} {e : Env} (h : View st a w e) : PureOk P o r a w e := by
  unfold evalP at hr
  split at hr
  · rename_i t m k ok ho
    split at hr
    · rename_i tk te hm
      obtain ⟨kt,et,h1,h2,h3⟩:=mapT_inv hΓ hm
      obtain ⟨v,g1,g2⟩:=run_lookupA h1 h2 h3 h.obj (h.ev m) (h.ev k) hr
      exact .mk (s:=Instr.lookup t (a.eval m) (a.eval k) ok) (by simp [execOp,ho]) g1 g2
    · cases hr
  · rename_i args tys ho
    have hA:args=args.toList.toArray:=by simp
    have hT:tys=tys.toList.toArray:=by simp
    split at hr
    · rename_i x t ha ht
      split at hr
      · rename_i q hm
        rw [ha] at hA; rw [ht] at hT
        subst hA; subst hT
        obtain ⟨kt,et,h1,h2,h3⟩:=mapT_inv hΓ hm
        obtain ⟨v,g1,g2⟩:=run_lenM h1 h.obj (h.ev x) hr (rt:=o.type)
        exact ⟨v,by simp [execOp,ho,resolve,invoke,builtin,g1],g2⟩
      · exact evalP0_ok hΓ hr h
    · cases hr
  · exact evalP0_ok hΓ hr h
theorem evalW0_ok (hΓ : TOk P Γ) {o : Oper} {st st' : St} {r : AV} (hr : evalW0 Γ o st = some (r, st')) {a : Act} {w : World} {e : Env} (h : Conc st a w e) : OpOk P o st' r a w e := by
  unfold evalW0 at hr
  split at hr
  · rename_i t p x ho
    split at hr
    · rename_i ti ht
      obtain ⟨s',hs',hE⟩:=Option.map_eq_some_iff.1 hr
      cases hE
      obtain ⟨w',e',h1,h2,h3⟩:=h.storeAt (hΓ _ _ ht) (h.ev p) (h.ev x) hs'
      exact ⟨undef,w',e',.inr ⟨by simp [execOp,ho,h1],rfl⟩,h2,h3,.dead _⟩
    · cases hr
  · rename_i el ho
    split at hr
    · rename_i ti id ht hid
      obtain ⟨w',e',h1,h2,h3,h4⟩:=h.box (P:=P) (rd_zeroA ti.zero) hr
      exact ⟨_,w',e',.inl (by simp [execOp,ho,run_alloc_box (hΓ _ _ ht),h1]),h2,h3,h4⟩
    · cases hr
  · rename_i el x ho
    split at hr
    · rename_i id hid
      obtain ⟨w',e',h1,h2,h3,h4⟩:=h.box (P:=P) (h.ev x) hr
      exact ⟨_,w',e',.inl (by simp [execOp,ho,h1]),h2,h3,h4⟩
    · cases hr
  · rename_i t len parts ho
    split at hr
    · rename_i s1 s2 s3 el s4 s5 id ht hid
      split at hr
      · rename_i te hte
        obtain ⟨v,w',e',h1,h2,h3,h4⟩:=h.buildSlice (hΓ _ _ ht) rfl (hΓ _ _ hte) (vparts:=parts.toList.map fun p=>(p.1,a.eval p.2)) (by simp) (parts_rd h.view parts.toList) hr
        have hx:execOp a.eval o=(do pure (Next.value (← Instr.buildSlice t len (parts.toList.map fun p=>(p.1,a.eval p.2)).toArray))):=by
          simp only [execOp,ho]
          congr 3
          apply Array.ext'; simp
        exact ⟨v,w',e',.inl (by rw [hx]; simp [h1]),h2,h3,h4⟩
      · cases hr
    · cases hr
  · rename_i t l c ho
    split at hr
    · rename_i s1 s2 s3 el s4 s5 id ht hid
      split at hr
      · rename_i te hte
        obtain ⟨v,w',e',h1,h2,h3,h4⟩:=h.makeSlice (hΓ _ _ ht) rfl (hΓ _ _ hte) (h.ev l) (h.ev c) hr
        exact ⟨v,w',e',.inl (by simp [execOp,ho,h1]),h2,h3,h4⟩
      · cases hr
    · cases hr
  · rename_i b args tys ho
    have hA:args=args.toList.toArray:=by simp
    have hT:tys=tys.toList.toArray:=by simp
    generalize args.toList=al at hr hA
    generalize tys.toList=tl at hr hT
    subst hA; subst hT
    split at hr
    · rename_i s x t t'
      split at hr
      · rename_i htt
        subst htt
        split at hr
        · rename_i s1 s2 s3 ty s4 s5 id ht hid
          split at hr
          · rename_i te hte
            obtain ⟨v,w',e',h1,h2,h3,h4⟩:=h.appendA (hΓ _ _ ht) rfl (hΓ _ _ hte) o.type (h.ev s) (h.ev x) hr
            exact ⟨v,w',e',.inl (by simp [execOp,ho,resolve,invoke,builtin,h1]),h2,h3,h4⟩
          · cases hr
        · cases hr
      · cases hr
    · cases hr
  · cases hr
theorem evalW_ok (hΓ : TOk P Γ) {o : Oper} {st st' : St} {r : AV} (hr : evalW Γ o st = some (r, st')) {a : Act} {w : World} {e : Env} (h : Conc st a w e) : OpOk P o st' r a w e := by
  unfold evalW at hr
  split at hr
  · rename_i t ho
    split at hr
    · rename_i tk te id hm hid
      obtain ⟨v,w',e',h1,h2,h3,h4⟩:=h.makeMap (P:=P) (t:=t) hr
      exact ⟨v,w',e',.inl (by simp [execOp,ho,h1]),h2,h3,h4⟩
    · cases hr
  · rename_i t m k x ho
    split at hr
    · rename_i tk te hm
      obtain ⟨s',hs',hE⟩:=Option.map_eq_some_iff.1 hr
      cases hE
      obtain ⟨kt,et,q1,q2,q3⟩:=mapT_inv hΓ hm
      obtain ⟨w',h1,h2,h3⟩:=h.mapSet q1 q2 (h.ev m) (h.ev k) (h.ev x) hs'
      exact ⟨undef,w',e,.inr ⟨by simp [execOp,ho,h1],rfl⟩,h2,h3,.dead _⟩
    · cases hr
  · rename_i args tys ho
    have hA:args=args.toList.toArray:=by simp
    have hT:tys=tys.toList.toArray:=by simp
    split at hr
    · rename_i m k t t2 ha ht
      split at hr
      · rename_i tk te hm
        rw [ha] at hA; rw [ht] at hT
        subst hA; subst hT
        obtain ⟨s',hs',hE⟩:=Option.map_eq_some_iff.1 hr
        cases hE
        obtain ⟨kt,et,q1,q2,q3⟩:=mapT_inv hΓ hm
        obtain ⟨w',h1,h2,h3⟩:=h.mapDel q1 q2 (h.ev m) (h.ev k) hs' (t2:=t2) (rt:=o.type)
        exact ⟨.tuple #[],w',e,.inl (by simp [execOp,ho,resolve,invoke,builtin,h1]),h2,h3,.dead _⟩
      · cases hr
    · cases hr
  · rename_i args tys ho
    have hA:args=args.toList.toArray:=by simp
    have hT:tys=tys.toList.toArray:=by simp
    split at hr
    · rename_i d x t t2 ha ht
      split at hr
      · rename_i s1 s2 s3 el s4 s5 hti
        split at hr
        · rename_i te hte
          split at hr
          · rename_i hsz
            rw [ha] at hA; rw [ht] at hT
            subst hA; subst hT
            obtain ⟨v,w',e',h1,h2,h3,h4⟩:=h.copyA (hΓ _ _ hti) rfl (hΓ _ _ hte) hsz (t':=t2) (rt:=o.type) (h.ev d) (h.ev x) hr
            exact ⟨v,w',e',.inl (by simp [execOp,ho,resolve,invoke,builtin,h1]),h2,h3,h4⟩
          · cases hr
        · cases hr
      · cases hr
    · cases hr
  · exact evalW0_ok hΓ hr h
theorem evalAll_ok (hΓ:TOk P Γ) {o:Oper} {st st' : St} {r:AV} (hr:evalAll Γ o st=some (r,st')) {a:Act} {w:World} {e:Env} (h:Conc st a w e):OpOk P o st' r a w e:=by
  unfold evalAll at hr
  split at hr
  · exact evalW_ok hΓ hr h
  · split at hr
    · rename_i r' hr'
      cases hr
      obtain ⟨v,h1,h2⟩:=evalP_ok hΓ hr' h.view
      exact ⟨v,w,e,.inl h1,h,Fr.refl w e,h2⟩
    · cases hr
end
end Go.Sim
