/- Range over a function, rows that change names. -/
import Derived.Test.YtadlbdekaehipaaDoorMb
import Derived.Test.YtadlbdekaehipaaDoorMa
import Derived.RangeFuncRecord
set_option linter.all false
set_option linter.unusedVariables false
set_option linter.unusedSimpArgs false
namespace Go.Sim
open Go.RowKit
section
variable {P:Program} {Γ:TypeId→Option TI}
theorem Rd.evolveX {w w' : World} {e e' : Env} (hq:∀ b,e.q b→b < w.heap.size→w'.heap[b]?=w.heap[b]?∧e'.q b) {x:AV} {v:Value} (h:Rd w e x v) :
    (∀ id m,x.men id=true→e.get id=some m→e'.get id=some m∨∃ m',e'.get id=some m'∧m'.gone)→Rd w' e' x v:=by
  induction h with
  | dead v=>exact fun _=>.dead v
  | data h=>exact fun _=>.data (h.evolve hq)
  | own0 id m hm hb a =>
    intro hg
    rcases hg id m (by simp [AV.men]) hm with h | ⟨m',h,g⟩
    · exact .own0 id m h hb a
    · exact .ownX id 0 0 m' h g a 0 (by simp) (Nat.le_refl _)
  | own id off len m b hm hb hc =>
    intro hg
    rcases hg id m (by simp [AV.men]) hm with h | ⟨m',h,g⟩
    · exact .own id off len m b h hb hc
    · exact .ownX id off len m' h g _ _ (fun _=>rfl) (by omega)
  | ownX id off len m hm hgo a cap ha hc =>
    intro hg
    rcases hg id m (by simp [AV.men]) hm with h | ⟨m',h,g⟩
    · exact .ownX id off len m h hgo a cap ha hc
    · exact .ownX id off len m' h g a cap ha hc
  | ptr id i off m b hm hb =>
    intro hg
    rcases hg id m (by simp [AV.men]) hm with h | ⟨m',h,g⟩
    · exact .ptr id i off m b h hb
    · exact .ptrX id i off m' h g _
  | ptrX id i off m hm hgo a =>
    intro hg
    rcases hg id m (by simp [AV.men]) hm with h | ⟨m',h,g⟩
    · exact .ptrX id i off m h hgo a
    · exact .ptrX id i off m' h g a
  | arr id i off len cap m b hm hb =>
    intro hg
    rcases hg id m (by simp [AV.men]) hm with h | ⟨m',h,g⟩
    · exact .arr id i off len cap m b h hb
    · exact .arrX id i off len cap m' h g _
  | arrX id i off len cap m hm hgo a =>
    intro hg
    rcases hg id m (by simp [AV.men]) hm with h | ⟨m',h,g⟩
    · exact .arrX id i off len cap m h hgo a
    · exact .arrX id i off len cap m' h g a
  | sub id i len cap m hm =>
    intro hg
    rcases hg id m (by simp [AV.men]) hm with h | ⟨m',h,g⟩
    · exact .sub id i len cap m h
    · exact .subX id i len cap m' h g _
  | subX id i len cap m hm hgo a =>
    intro hg
    rcases hg id m (by simp [AV.men]) hm with h | ⟨m',h,g⟩
    · exact .subX id i len cap m h hgo a
    · exact .subX id i len cap m' h g a
  | sptr id i k off m hm =>
    intro hg
    rcases hg id m (by simp [AV.men]) hm with h | ⟨m',h,g⟩
    · exact .sptr id i k off m h
    · exact .sptrX id i k off m' h g _
  | sptrX id i k off m hm hgo a =>
    intro hg
    rcases hg id m (by simp [AV.men]) hm with h | ⟨m',h,g⟩
    · exact .sptrX id i k off m h hgo a
    · exact .sptrX id i k off m' h g a
  | iptr l b off vals hne hqb hc hr =>
    intro _
    exact (Rd.iptr l b off vals hne hqb hc hr).evolve hq (by
      intro id hid; simp [AV.men] at hid)
  | map id m b hm hb =>
    intro hg
    rcases hg id m (by simp [AV.men]) hm with h | ⟨m',h,g⟩
    · exact .map id m b h hb
    · exact .mapX id m' h g b
  | yld id m b hm hb =>
    intro hg
    rcases hg id m (by simp [AV.men]) hm with h | ⟨m',h,g⟩
    · exact .yld id m b h hb
    · exact .yldX id m' h g b
  | mapX id m hm hgo b =>
    intro hg
    rcases hg id m (by simp [AV.men]) hm with h | ⟨m',h,g⟩
    · exact .mapX id m h hgo b
    · exact .mapX id m' h g b
  | yldX id m hm hgo b =>
    intro hg
    rcases hg id m (by simp [AV.men]) hm with h | ⟨m',h,g⟩
    · exact .yldX id m h hgo b
    · exact .yldX id m' h g b
  | mth f l vs hs hr ih=>exact fun hg=>.mth f l vs hs fun i x v hx hv=>ih i x v hx hv fun id m hid=>hg id m (by simp only [AV.men]; exact AV.menL_of (List.mem_of_getElem? hx) hid)
  | clo f l vs hs hr ih=>exact fun hg=>.clo f l vs hs fun i x v hx hv=>ih i x v hx hv fun id m hid=>hg id m (by simp only [AV.men]; exact AV.menL_of (List.mem_of_getElem? hx) hid)
  | agg l vs hs hr ih=>exact fun hg=>.agg l vs hs fun i x v hx hv=>ih i x v hx hv fun id m hid=>hg id m (by simp only [AV.men]; exact AV.menL_of (List.mem_of_getElem? hx) hid)
  | tup l vs hs hr ih=>exact fun hg=>.tup l vs hs fun i x v hx hv=>ih i x v hx hv fun id m hid=>hg id m (by simp only [AV.men]; exact AV.menL_of (List.mem_of_getElem? hx) hid)
theorem Obj.map_self (o:Obj):o.map (fun x=>x)=o:=by
  cases o with
  | row d ty sz els =>
    cases d with
    | true=>rfl
    | false =>
      simp only [Obj.map,Obj.row.injEq,true_and]
      conv=>rhs; rw [← List.map_id els]
      refine List.map_congr_left fun x _=>?_
      cases x <;> simp [AV.mapCells]
  | mp d sh ents =>
    cases d with
    | true=>rfl
    | false =>
      simp only [Obj.map,Obj.mp.injEq,true_and]
      conv=>rhs; rw [← List.map_id ents]
      refine List.map_congr_left fun x _=>?_
      obtain ⟨k,x⟩:=x
      cases x <;> simp [AV.mapTop]
  | _=>rfl
theorem Appended.row {w w' : World} {e e' : Env} {ty:TypeId} {sz:Nat} {els l:List AV} {own:Option Nat} {olds news:List Value} {v' : Value} {g cap' : Nat} {cur' : Array Value}
    (ha:Appended w w' ty sz els.length l.length own olds news v' g cap' cur') (hfr:Fr w e w' e') (hcells:∀ x∈els ++ l,x.cells.length=sz) (holen:olds.length=els.length * sz)
    (hold:∀ (i:Nat) (x:AV),els[i]?=some x→∀ (j:Nat) (y:AV),x.cells[j]?=some y→∃ v,olds[i * sz + j]?=some v∧v.oneCell'=true∧RdD w e.q y v)
    (hnew:∀ (i:Nat) (x:AV),l[i]?=some x→∀ (j:Nat) (y:AV),x.cells[j]?=some y→∃ v,news[i * sz + j]?=some v∧v.oneCell'=true∧RdD w e.q y v) :
    RowOk w' e' (mt (some g) cap' sz) true ty sz (els ++ l):=by
  refine ⟨rfl,by rw [List.length_append]; exact ha.fits,ha.cap,hcells,fun _ h=>h,cur',ha.blk,ha.size,fun i x hx j y hy=>?_⟩
  have hi:i < els.length + l.length:=by have:=(List.getElem?_eq_some_iff.1 hx).1; simpa using this
  have hj:j < sz:=by rw [← hcells x (List.mem_of_getElem? hx)]; exact (List.getElem?_eq_some_iff.1 hy).1
  have hlt:i * sz + j < (els.length + l.length) * sz:=by
    have:(i + 1) * sz≤(els.length + l.length) * sz:=Nat.mul_le_mul_right _ hi
    rw [Nat.add_mul,Nat.one_mul] at this; omega
  rw [ha.con _ hlt]
  by_cases hlo:i < els.length
  · rw [List.getElem?_append_left hlo] at hx
    obtain ⟨v,g1,g2,g3⟩:=hold i x hx j y hy
    refine ⟨v, ?_,g2,by simp only [CellRd,if_true]; exact g3.fr hfr⟩
    rw [List.getElem?_append_left (List.getElem?_eq_some_iff.1 g1).1]; exact g1
  · rw [List.getElem?_append_right (by omega)] at hx
    obtain ⟨v,g1,g2,g3⟩:=hnew (i - els.length) x hx j y hy
    refine ⟨v, ?_,g2,by simp only [CellRd,if_true]; exact g3.fr hfr⟩
    have h1:i * sz=els.length * sz + (i - els.length) * sz:=by rw [← Nat.add_mul]; congr 1; omega
    rw [List.getElem?_append_right (by omega),← g1]; congr 1; omega
theorem Conc.movedM {st : St} {a : Act} {w w' : World} {e : Env} (h : Conc st a w e) {id nid : Nat} (hu : unp id = true) (hun : unp nid = true) (hne : nid ≠ id) (hno : look nid st.objs = none) (hid : (look id st.objs).isSome = true) (m : Mta) (o' : Obj)
    (hos:w'.os=w.os) (hta:w'.tape=w.tape) (hou:w'.output=w.output) (hgrow:w.heap.size≤w'.heap.size) (hg:∀ b,m.has b→(∃ m0,e.get id=some m0∧m0.has b)∨w.heap.size≤b)
    (hkeep:∀ k,k < w.heap.size→(∀ m0,e.get id=some m0→¬ m0.has k)→w'.heap[k]?=w.heap[k]?) (hobj:∀ e',Fr w e w' e'→e'.get nid=some m→ObjOk w' e' m o') :
    ∃ e',Conc { st with objs:=[(nid,o'),(id,.gone)] ++ st.objs } a w' e'∧Fr w e w' e'∧e'.get nid=some m:=by
  let gm:Mta:=mt none 1 0
  have hgn:e.get nid=none:=get_none h hno
  let e' : Env:={ e with get:=fun j=>if j=nid then some m else if j=id then some gm else e.get j }
  have hget:∀ j,e'.get j=if j=nid then some m else if j=id then some gm else e.get j:=fun _=>rfl
  have hgm:∀ b,¬ gm.has b:=fun b hb=>by rcases hb with hb | hb <;> cases hb
  have hfr:Fr w e w' e':=by
    refine ⟨hos,hta,hou,hgrow,fun b hb hn=>hkeep b hb (fun m0 h1 h2=>hn ⟨id,m0,h1,h2⟩),fun b ho hb=>?_,rfl,Pinned.of fun j hj=>?_⟩
    · obtain ⟨j,mj,hj,hm⟩:=ho
      rw [hget] at hj
      split at hj
      · cases hj
        rcases hg b hm with ⟨m0,h1,h2⟩ | h1
        · exact ⟨id,m0,h1,h2⟩
        · omega
      · split at hj
        · cases hj; exact absurd hm (hgm b)
        · exact ⟨j,mj,hj,hm⟩
    · rw [hget,if_neg (unp_ne hun hj),if_neg (unp_ne hu hj)]
  have hT:Turns w e w' e' (fun x=>x):=by
    intro x v hx
    refine hx.evolveX hfr.q fun j mj hmen hj=>?_
    rw [hget]
    by_cases h1:j=nid
    · subst h1; rw [hgn] at hj; cases hj
    · rw [if_neg h1]
      by_cases h2:j=id
      · rw [if_pos h2]; exact .inr ⟨gm,rfl,rfl,rfl⟩
      · rw [if_neg h2]; exact .inl hj
  have hoth:∀ b,m.has b→∀ j mj,j≠id→e.get j=some mj→¬ mj.has b:=by
    intro b hb0 j mj hj hm hb
    rcases hg b hb0 with ⟨m0,h1,h2⟩ | h1
    · exact hj (h.sim.inj j id mj m0 b hm h1 hb h2)
    · have:=h.sim.blk_lt hm hb; omega
  refine ⟨e',⟨⟨fun j=>?_,fun i j mi mj b hi hj hb hb'=>?_,fun j o mj ho hm=>?_,fun b hb=>?_,fun b hb=>h.sim.new b (Nat.le_trans hgrow hb)⟩,h.defers.fr hfr,h.size,fun t x hx=>?_⟩,hfr,by simp [hget]⟩
  · simp only [hget,List.cons_append,List.nil_append,look]
    by_cases h1:nid=j
    · subst h1; simp
    · rw [if_neg (Ne.symm h1),if_neg h1]
      by_cases h2:id=j
      · subst h2; simp
      · rw [if_neg (Ne.symm h2),if_neg h2]; exact h.sim.dom j
  · rw [hget] at hi hj
    by_cases h1:i=nid <;> by_cases h2:j=nid
    · rw [h1,h2]
    · rw [if_pos h1] at hi; rw [if_neg h2] at hj
      cases hi
      by_cases h3:j=id
      · rw [if_pos h3] at hj; cases hj; exact absurd hb' (hgm _)
      · rw [if_neg h3] at hj; exact absurd hb' (hoth b hb j mj h3 hj)
    · rw [if_neg h1] at hi; rw [if_pos h2] at hj
      cases hj
      by_cases h3:i=id
      · rw [if_pos h3] at hi; cases hi; exact absurd hb (hgm _)
      · rw [if_neg h3] at hi; exact absurd hb (hoth b hb' i mi h3 hi)
    · rw [if_neg h1] at hi; rw [if_neg h2] at hj
      by_cases h3:i=id
      · rw [if_pos h3] at hi; cases hi; exact absurd hb (hgm _)
      · by_cases h4:j=id
        · rw [if_pos h4] at hj; cases hj; exact absurd hb' (hgm _)
        · rw [if_neg h3] at hi; rw [if_neg h4] at hj; exact h.sim.inj i j mi mj b hi hj hb hb'
  · simp only [List.cons_append,List.nil_append,look] at ho
    rw [hget] at hm
    by_cases h1:nid=j
    · rw [if_pos h1] at ho; rw [if_pos h1.symm] at hm
      cases ho; cases hm
      exact hobj e' hfr (by simp [hget])
    · rw [if_neg h1] at ho; rw [if_neg (Ne.symm h1)] at hm
      by_cases h2:id=j
      · rw [if_pos h2] at ho; rw [if_pos h2.symm] at hm
        cases ho; cases hm
        exact ⟨⟨rfl,rfl⟩,fun _ h=>h⟩
      · rw [if_neg h2] at ho; rw [if_neg (Ne.symm h2)] at hm
        have:=hT.obj (fun x hx=>hx) hfr.q (h.sim.obj j o mj ho hm) hfr.size ⟨hfr.os,hfr.tape,hfr.output⟩ (fun b hb=>hkeep b (h.sim.blk_lt hm hb) (fun m0 g1 g2=>h2 (h.sim.inj j id mj m0 b hm g1 hb g2).symm))
        rwa [Obj.map_self] at this
  · obtain ⟨j,mj,hj,hb'⟩:=hb
    rw [hget] at hj
    split at hj
    · cases hj
      rcases hg b hb' with ⟨m0,h1,h2⟩ | h1
      · exact h.sim.prok b ⟨id,m0,h1,h2⟩
      · exact h.sim.new b h1
    · split at hj
      · cases hj; exact absurd hb' (hgm b)
      · exact h.sim.prok b ⟨j,mj,hj,hb'⟩
  · obtain ⟨v,hv,hr⟩:=h.tmp t x hx
    exact ⟨v,hv,hT _ _ hr⟩
theorem Conc.moved {st:St} {a:Act} {w w' : World} {e:Env} (h:Conc st a w e) {id nid:Nat} (hu:unp id=true) (hun:unp nid=true) (hne:nid≠id) (hno:look nid st.objs=none) (hid:(look id st.objs).isSome=true)
    {ty:TypeId} {sz:Nat} {els l:List AV} {own:Option Nat} {olds news:List Value} {v' : Value} {g cap' : Nat} {cur' : Array Value}
    (ha:Appended w w' ty sz els.length l.length own olds news v' g cap' cur') (hcells:∀ x∈els ++ l,x.cells.length=sz)
    (hown:∀ b,own=some b→∃ m,e.get id=some m∧m.blk=some b) (holen:olds.length=els.length * sz)
    (hold:∀ (i:Nat) (x:AV),els[i]?=some x→∀ (j:Nat) (y:AV),x.cells[j]?=some y→∃ v,olds[i * sz + j]?=some v∧v.oneCell'=true∧RdD w e.q y v)
    (hnew:∀ (i:Nat) (x:AV),l[i]?=some x→∀ (j:Nat) (y:AV),x.cells[j]?=some y→∃ v,news[i * sz + j]?=some v∧v.oneCell'=true∧RdD w e.q y v) :
    ∃ e',Conc { st with objs:=[(nid,.row true ty sz (els ++ l)),(id,.gone)] ++ st.objs } a w' e'∧Fr w e w' e'∧Rd w' e' (.own nid 0 (els ++ l).length) v':=by
  obtain ⟨e',q1,q2,q3⟩:=h.movedM hu hun hne hno hid (mt (some g) cap' sz) (.row true ty sz (els ++ l)) ha.os ha.tape ha.output ha.grow (fun b hb=>by
      have hb':=Mta.has_mk.1 hb
      cases hb'
      rcases ha.at_ with h1 | h1
      · obtain ⟨m0,g1,g2⟩:=hown g h1.symm; exact .inl ⟨m0,g1,.inl g2⟩
      · exact .inr h1)
    (fun k hk hn=>ha.keep k hk fun hko=>by
      obtain ⟨m0,h1,h2⟩:=hown k hko.symm
      exact hn m0 h1 (.inl h2))
    (fun e' hfr _=>ha.row hfr hcells holen hold hnew)
  refine ⟨e',q1,q2, ?_⟩
  have hfit:=ha.fits
  have:=Rd.own (w:=w') (e:=e') nid 0 (els ++ l).length _ g q3 rfl (by simpa using hfit)
  rw [ha.val]
  simpa [List.length_append] using this
theorem run_append_in {w:World} {t ty:TypeId} {ti te:TI} (hti:TIOk P t ti) (hd:ti.desc = .slice ty) (hte:TIOk P ty te) (rt:TypeId) {b n cap m c:Nat} {cur:Array Value} {ad:Addr} {olds news:List Value}
    (hb:w.heap[b]?=some (.cells cur ty (0,0))) (hcs:cur.size=cap * te.size) (hcm:cap≤maxLen) (ho:cur.toList.take (n * te.size)=olds)
    (hl:news.length=m * te.size) (hnews:∀ (j:Nat) (u:Value),news[j]?=some u→w.cell? (ad.add j)=some u) (h1:∀ u∈news,u.oneCell'=true) (hroom:n + m≤cap) :
    ∃ w' cur', (Builtin.append_ #[t, t] rt #[.slice (some ⟨b, 0, none⟩) n cap, .slice (some ad) m c]).run P w = .ok (.slice (some ⟨b, 0, none⟩) (n + m) cap) w' ∧
      Appended w w' ty te.size n m (some b) olds news (.slice (some ⟨b,0,none⟩) (n + m) cap) b cap cur':=by
  obtain ⟨k,hk,hks,hkb,hkz⟩:=hte.parts
  have hu:P.underlying t=some (.slice ty):=by rw [hti.und,hd]
  have hnc:n≤cap:=by omega
  have holen:olds.length=n * te.size:=by
    rw [← ho,List.length_take,Array.length_toList,hcs,Nat.min_eq_left]; exact Nat.mul_le_mul_right _ hnc
  have hfit:n * te.size + news.length≤cur.size:=by rw [hl,hcs,← Nat.add_mul]; exact Nat.mul_le_mul_right _ hroom
  have hr:=run_append_room (P:=P) w t rt ty k hu hk b n cap cur hb ad m c news (by rw [hks]; exact hl) hnews h1 hroom (by rw [hks]; exact hfit)
  rw [hks] at hr
  refine ⟨_,_,hr,rfl,setRow_heap w b cur _ ty _ hb, ?_,hroom,hcm,.inl rfl,fun p hp=>?_,rfl,rfl,rfl,by simp,fun q _ hq=>setRow_other w b q _ (fun e=>hq (by rw [e]))⟩
  · simp only [List.size_toArray,List.length_append,List.length_take,List.length_drop,Array.length_toList]; omega
  · rw [ho,List.getElem?_toArray,List.getElem?_append_left]
    rw [List.length_append,holen,hl,← Nat.add_mul]; exact hp
theorem run_append_out {w:World} {t ty:TypeId} {ti te:TI} (hti:TIOk P t ti) (hd:ti.desc = .slice ty) (hte:TIOk P ty te) (rt:TypeId) {b n cap m c:Nat} {cur:Array Value} {ad:Addr} {olds news:List Value}
    (hb:w.heap[b]?=some (.cells cur ty (0,0))) (hcs:cur.size=cap * te.size) (hnc:n≤cap) (ho:cur.toList.take (n * te.size)=olds)
    (hl:news.length=m * te.size) (hnews:∀ (j:Nat) (u:Value),news[j]?=some u→w.cell? (ad.add j)=some u) (hbytes:(n + m) * te.bytes≤140737488355328) (h63:n + m≤maxLen) (hroom:¬ n + m≤cap) :
    ∃ v' w' g cap' cur',(Builtin.append_ #[t,t] rt #[.slice (some ⟨b,0,none⟩) n cap,.slice (some ad) m c]).run P w = .ok v' w'∧Appended w w' ty te.size n m none olds news v' g cap' cur':=by
  obtain ⟨k,hk,hks,hkb,hkz⟩:=hte.parts
  have hu:P.underlying t=some (.slice ty):=by rw [hti.und,hd]
  have holen:olds.length=n * te.size:=by
    rw [← ho,List.length_take,Array.length_toList,hcs,Nat.min_eq_left]; exact Nat.mul_le_mul_right _ hnc
  have holds:∀ (j:Nat) (u:Value),olds[j]?=some u→w.cell? ((⟨b,0,none⟩:Addr).add j)=some u:=by
    intro j u hj
    rw [addr_add,Nat.zero_add,cell_of_row w b j cur ty (0,0) hb]
    rw [← ho,List.getElem?_take] at hj
    split at hj
    · simpa using hj
    · cases hj
  have hsmall:n + m≤9223372036854775807:=by simp only [maxLen] at h63; omega
  have hr:=run_append_grow (P:=P) w t rt ty k te.zero hu hk hkz ⟨b,0,none⟩ n cap olds (by rw [hks]; exact holen) holds ad m c news (by rw [hks]; exact hl) hnews (by omega) (by omega) (growslice_fits (by omega) (by rw [hkb]; exact hbytes))
  have hge:=grownCap_ge w (n + m) cap ty
  refine ⟨_,_,w.heap.size,_,_,hr,rfl,heap_alloc_new w.drew _, ?_,hge,grownCap_le_maxLen w (n + m) cap ty h63,.inr (Nat.le_refl _),fun p hp=>?_,rfl,rfl,rfl,by simp,fun q hq _=>heap_alloc_old w.drew _ q hq⟩
  · simp only [Array.size_append,List.size_toArray,size_zeroCells,hte.zsz,holen,hl,← Nat.add_mul]
    congr 1; omega
  · have hlen:(olds ++ news).length=(n + m) * te.size:=by rw [List.length_append,holen,hl,Nat.add_mul]
    rw [Array.getElem?_append_left (by simp only [Array.size_append,List.size_toArray]; rw [List.length_append] at hlen; omega),List.append_toArray,List.getElem?_toArray]
def St.appQ (st : St) (te : TI) (ty : TypeId) (nid : Nat) (s x : AV) : Option (AV × List (Nat × Obj)) :=
  if 0 < te.size then
  match st.srcA te.size x with
  | some l=>match s with
    | .own id 0 len=>match look id st.objs with
      | some (.row true ty' sz els)=>if ty'=ty∧sz=te.size∧len=els.length∧capOk (els.length + l.length) te.bytes=true∧unp nid=true∧unp id=true∧nid≠id then
          some (.own nid 0 (els ++ l).length,[(nid,.row true ty sz (els ++ l)),(id,.gone)]) else none
      | some (.fix ty' sz cap els)=>if ty'=ty∧sz=te.size∧len=els.length∧l≠[]∧capOk (els.length + l.length) te.bytes=true∧unp nid=true then
          (if els.length + l.length≤cap then some (.own id 0 (els ++ l).length,[(id,.fix ty sz cap (els ++ l))]) else some (.own nid 0 (els ++ l).length,[(nid,.row true ty sz (els ++ l))])) else none
      | _=>none
    | .val (.slice none 0 0)=>if l≠[]∧capOk l.length te.bytes=true∧unp nid=true then some (.own nid 0 l.length,[(nid,.row true ty te.size l)]) else none
    | _=>none
  | none=>none
  else none
noncomputable def evalApp (Γ:TypeId→Option TI) (o:Oper) (st:St):Option (AV×List (Nat×Obj)):=
  match o.op with
  | .call { callee:=.builtin b,args,argTypes }=>match b,args.toList,argTypes.toList with
    | .append,[s,x],[t,t']=>if t=t' then (match Γ t,slotId o with
      | some ⟨_,_,_,.slice ty,_,_⟩,some id=>match Γ ty with
        | some te=>st.appQ te ty id (st.ev s) (st.ev x)
        | none=>none
      | _,_=>none) else none
    | _,_,_=>none
  | _=>none
theorem Sub.srcA {st S : St} (hs : Sub st S) {sz : Nat} {o : Operand} {l : List AV} (h : st.srcA sz (st.ev o) = some l) : S.srcA sz (S.ev o) = some l := by
  rcases hs.ev o with hd | hd
  · rw [hd] at h; simp [St.srcA] at h
  · rw [hd]
    unfold St.srcA at h ⊢
    split at h
    · exact h
    · rename_i id off len hx
      split at h
      · rename_i ho
        rw [hs.2 _ _ ho]; exact h
      · cases h
    · exact h
    · cases h
theorem QStep.append (hΓ : TOk P Γ) {o : Oper} {st : St} {r : AV} {new : List (Nat × Obj)} (hr : evalApp Γ o st = some (r, new)) (hfresh : ∀ nid, slotId o = some nid → look nid st.objs = none) : QStep P o st r new := by
  intro S rd a w e h hs hno next Q hn
  unfold evalApp at hr
  split at hr
  · rename_i bi args tys ho
    split at hr
    · rename_i s x t t' harg hty
      split at hr
      · rename_i htt
        subst htt
        split at hr
        · rename_i i1 i2 i3 ty i4 i5 nid hti hslot
          split at hr
          · rename_i te hte
            have hfr:=hfresh nid hslot
            have hargs:args = #[s,x]:=by rw [← Array.toList_inj]; simpa using harg
            have htys:tys = #[t,t]:=by rw [← Array.toList_inj]; simpa using hty
            subst hargs; subst htys
            have hT:=hΓ _ _ hti
            have hE:=hΓ _ _ hte
            have main:∀ v w' e',(Builtin.append_ #[t,t] o.type #[a.eval s,a.eval x]).run P w = .ok v w'→Conc { S with objs:=new ++ S.objs } a w' e'→Fr w e w' e'→Rd w' e' r v→o.wpIn (FR rd) 0 P a w next Q:=by
              intro v w' e' h1 h2 h3 h4
              refine ⟨fun _ _=>trivial, ?_⟩
              rw [semAt_ok (x:=.value v) (w':=w') (by simp [execOp,ho,resolve,invoke,builtin,h1]) (by simp)]
              exact hn v w' e' h2 h3 h4
            unfold St.appQ at hr
            split at hr
            · rename_i hz
              split at hr
              · rename_i l hsrc
                have hS:=h.src hz (h.ev x) (hs.srcA hsrc)
                split at hr
                · rename_i id len hsv
                  have hsS:S.ev s = .own id 0 len:=by
                    rcases hs.ev s with hd | hd
                    · rw [hd] at hsv; cases hsv
                    · rw [hd]; exact hsv
                  have hrs:=h.ev s
                  rw [hsS] at hrs
                  split at hr
                  · -- a row whose elder name dies
                    rename_i ty' sz els hob
                    split at hr
                    · rename_i hc
                      obtain ⟨rfl,rfl,hlen,hb0,hun,hu,hne⟩:=hc
                      obtain ⟨hb1,hb2⟩:=capOk_iff.1 hb0
                      cases hr
                      have hoS:=hs.2 _ _ hob
                      have hnS:look nid S.objs=none:=by
                        rcases hno (nid,_) (List.mem_cons_self ..) with h1 | h1
                        · simp only at h1; rw [hfr] at h1; cases h1
                        · exact h1
                      generalize hvs:a.eval s=vs at hrs
                      generalize hvx:a.eval x=vx at hS
                      cases hrs with
                      | data hrs=>cases hrs
                      | own0 _ m hm hb a0 =>
                        have hk:=h.sim.obj id _ m hoS hm
                        have hcap0:m.cap=0:=by have:=hk.blk; simpa [hb] using this
                        have hels:els=[]:=List.eq_nil_of_length_eq_zero (by have:=hk.len; omega)
                        subst hels
                        have nilCase:l=[]→(∃ a1 c,vx = .slice a1 0 c)→o.wpIn (FR rd) 0 P a w next Q:=by
                          rintro rfl ⟨a1,c,rfl⟩
                          obtain ⟨e',q1,q2,q3⟩:=h.movedM hu hun hne hnS (by rw [hoS]; rfl) (mt none 0 te.size) (.row true ty' te.size ([] ++ [])) rfl rfl rfl (Nat.le_refl _) (fun b hb'=>by rcases hb' with hb' | hb' <;> cases hb') (fun _ _ _=>rfl)
                            (fun e' _ _=>⟨rfl,by simp,Nat.zero_le _,fun x hx=>by simp at hx,fun _ h=>h,rfl⟩)
                          exact main _ w e' (by rw [hvs,hvx]; exact run_append_zero hT rfl hE o.type (Nat.le_refl _)) q1 q2 (.own0 nid _ q3 rfl a0)
                        rcases hS.val with ⟨hl0,hx0⟩ | ⟨ad,c,news,hvx',n1,n2,n3,n4⟩
                        · exact nilCase hl0 hx0
                        · by_cases hl0:l=[]
                          · exact nilCase hl0 ⟨_,_,by rw [hvx',hl0]; rfl⟩
                          · subst hvx'
                            simp only [List.length_nil,Nat.zero_add] at hb1 hb2
                            obtain ⟨v',w',g,cap',cur',hrun,hap⟩:=run_append_none (P:=P) (w:=w) (c:=c) (a0:=a0) hT rfl hE o.type (List.length_pos_iff.2 hl0) n1 n2 hb1 (by unfold maxLen; omega)
                            obtain ⟨e',q1,q2,q3⟩:=h.moved (id:=id) (nid:=nid) hu hun hne hnS (by rw [hoS]; rfl) (els:=[]) (l:=l) hap (by simpa using hS.cells) (fun b hb'=>by cases hb') (by simp) (fun i x hx=>by simp at hx) n4
                            exact main v' w' e' (by rw [hvs,hvx]; exact hrun) q1 q2 q3
                      | ownX _ _ _ m hm hg=>exact absurd hg (h.sim.obj id _ m hoS hm).ngone
                      | own _ _ _ m b hm hb hc =>
                        subst hlen
                        have hk:=h.sim.obj id _ m hoS hm
                        have hkb:=hk.blk
                        simp only [hb] at hkb
                        obtain ⟨cur,h1,h2,h3⟩:=hkb
                        have hms:m.sz=te.size:=hk.hsz
                        have hcap:=hk.len
                        have holen:(cur.toList.take (els.length * te.size)).length=els.length * te.size:=by
                          have hcl:cur.toList.length=m.cap * te.size:=by rw [← h2]; exact Array.length_toList
                          rw [List.length_take,hcl,Nat.min_eq_left]; exact Nat.mul_le_mul_right _ hcap
                        have hold:∀ (i:Nat) (x:AV),els[i]?=some x→∀ (j:Nat) (y:AV),x.cells[j]?=some y→∃ v,(cur.toList.take (els.length * te.size))[i * te.size + j]?=some v∧v.oneCell'=true∧RdD w e.q y v:=by
                          intro i x hx j y hy
                          obtain ⟨v,g1,g2,g3⟩:=h3 i x hx j y hy
                          have hi:i < els.length:=(List.getElem?_eq_some_iff.1 hx).1
                          have hj:j < te.size:=by rw [← hk.cells x (List.mem_of_getElem? hx)]; exact (List.getElem?_eq_some_iff.1 hy).1
                          have hlt:i * te.size + j < els.length * te.size:=by
                            have:(i + 1) * te.size≤els.length * te.size:=Nat.mul_le_mul_right _ hi
                            rw [Nat.add_mul,Nat.one_mul] at this; omega
                          exact ⟨v,by rw [List.getElem?_take,if_pos hlt]; simpa using g1,g2,by simpa [CellRd] using g3⟩
                        have hcells:∀ x∈els ++ l,x.cells.length=te.size:=by
                          intro x hx
                          rcases List.mem_append.1 hx with hx | hx
                          · exact hk.cells x hx
                          · exact hS.cells x hx
                        simp only [Nat.zero_mul,Nat.sub_zero] at hvs
                        have nilCase:l=[]→(∃ a1 c,vx = .slice a1 0 c)→o.wpIn (FR rd) 0 P a w next Q:=by
                          rintro rfl ⟨a1,c,rfl⟩
                          have hap:Appended w w ty' te.size els.length ([]:List AV).length (some b) (cur.toList.take (els.length * te.size)) [] (.slice (some ⟨b,0,none⟩) els.length m.cap) b m.cap cur:=
                            ⟨rfl,h1,h2,by simpa using hcap,hk.cap,.inl rfl,fun p hp=>by
                              simp only [List.length_nil,Nat.add_zero] at hp
                              rw [List.append_nil,List.getElem?_take,if_pos hp]; simp,rfl,rfl,rfl,Nat.le_refl _,fun _ _ _=>rfl⟩
                          obtain ⟨e',q1,q2,q3⟩:=h.moved (id:=id) (nid:=nid) hu hun hne hnS (by rw [hoS]; rfl) (els:=els) (l:=[]) hap hcells (fun b' hb'=>by cases hb'; exact ⟨m,hm,hb⟩) holen hold (fun i x hx=>by simp at hx)
                          exact main _ w e' (by rw [hvs,hvx]; exact run_append_zero hT rfl hE o.type hcap) q1 q2 q3
                        rcases hS.val with ⟨hl0,hx0⟩ | ⟨ad,c,news,hvx',n1,n2,n3,n4⟩
                        · exact nilCase hl0 hx0
                        · by_cases hl0:l=[]
                          · exact nilCase hl0 ⟨_,_,by rw [hvx',hl0]; rfl⟩
                          · subst hvx'
                            obtain ⟨v',w',g,cap',cur',hrun,hap⟩:=run_append_row (P:=P) (c:=c) hT rfl hE o.type h1 h2 hcap hk.cap rfl n1 n2 n3 hb1 (by unfold maxLen; omega)
                            obtain ⟨e',q1,q2,q3⟩:=h.moved (id:=id) (nid:=nid) hu hun hne hnS (by rw [hoS]; rfl) (els:=els) (l:=l) hap hcells (fun b' hb'=>by cases hb'; exact ⟨m,hm,hb⟩) holen hold n4
                            exact main v' w' e' (by rw [hvs,hvx]; exact hrun) q1 q2 q3
                    · cases hr
                  · -- a row of known room
                    rename_i ty' sz cap els hob
                    split at hr
                    · rename_i hc
                      obtain ⟨rfl,rfl,hlen,hl0,hb0,hun⟩:=hc
                      obtain ⟨hb1,hb2⟩:=capOk_iff.1 hb0
                      have hoS:=hs.2 _ _ hob
                      have hlp:=List.length_pos_iff.2 hl0
                      rcases hS.val with ⟨rfl,_⟩ | ⟨ad,c,news,hvx,n1,n2,n3,n4⟩
                      · exact absurd rfl hl0
                      · generalize hvs:a.eval s=vs at hrs
                        cases hrs with
                        | data hrs=>cases hrs
                        | own0 _ m hm hb a0 =>
                          obtain ⟨hk,hkc⟩:=h.sim.obj id _ m hoS hm
                          have hcap0:m.cap=0:=by have:=hk.blk; simpa [hb] using this
                          have hels:els=[]:=List.eq_nil_of_length_eq_zero (by have:=hk.len; omega)
                          subst hels
                          rw [if_neg (by simp only [List.length_nil]; omega)] at hr
                          cases hr
                          have hnS:look nid S.objs=none:=by
                            rcases hno (nid,_) (List.mem_cons_self ..) with h1 | h1
                            · simp only at h1; rw [hfr] at h1; cases h1
                            · exact h1
                          simp only [List.length_nil,Nat.zero_add] at hb1 hb2
                          obtain ⟨v',w',g,cap',cur',hrun,hap⟩:=run_append_none (P:=P) (w:=w) (c:=c) (a0:=a0) hT rfl hE o.type hlp n1 n2 hb1 (by unfold maxLen; omega)
                          obtain ⟨e',q1,q2,q3⟩:=h.appended (id:=nid) hun (els:=[]) (l:=l) hap (by simpa using hS.cells) (fun b hb'=>by cases hb') (by simp) (fun i x hx=>by simp at hx) n4
                          obtain ⟨g1,g2⟩:=renew_look h (get_none h hnS) (.row true ty' te.size ([] ++ l))
                          exact main v' w' e' (by rw [hvs,hvx]; exact hrun) (q1.congr (fun t=>(g1 t).symm) (fun j=>by rw [g2]; simp [look]) (by rw [← q1.size,h.size])) q2 q3
                        | ownX _ _ _ m hm hg=>exact absurd hg (h.sim.obj id _ m hoS hm).1.ngone
                        | own _ _ _ m b hm hb hc =>
                          subst hlen
                          obtain ⟨hk,hkc⟩:=h.sim.obj id _ m hoS hm
                          have hkb:=hk.blk
                          simp only [hb] at hkb
                          obtain ⟨cur,h1,h2,h3⟩:=hkb
                          have hms:m.sz=te.size:=hk.hsz
                          have hcap:=hk.len
                          have holen:(cur.toList.take (els.length * te.size)).length=els.length * te.size:=by
                            have hcl:cur.toList.length=m.cap * te.size:=by rw [← h2]; exact Array.length_toList
                            rw [List.length_take,hcl,Nat.min_eq_left]; exact Nat.mul_le_mul_right _ hcap
                          have hold:∀ (i:Nat) (x:AV),els[i]?=some x→∀ (j:Nat) (y:AV),x.cells[j]?=some y→∃ v,(cur.toList.take (els.length * te.size))[i * te.size + j]?=some v∧v.oneCell'=true∧RdD w e.q y v:=by
                            intro i x hx j y hy
                            obtain ⟨v,g1,g2,g3⟩:=h3 i x hx j y hy
                            have hi:i < els.length:=(List.getElem?_eq_some_iff.1 hx).1
                            have hj:j < te.size:=by rw [← hk.cells x (List.mem_of_getElem? hx)]; exact (List.getElem?_eq_some_iff.1 hy).1
                            have hlt:i * te.size + j < els.length * te.size:=by
                              have:(i + 1) * te.size≤els.length * te.size:=Nat.mul_le_mul_right _ hi
                              rw [Nat.add_mul,Nat.one_mul] at this; omega
                            exact ⟨v,by rw [List.getElem?_take,if_pos hlt]; simpa using g1,g2,by simpa [CellRd] using g3⟩
                          have hcells:∀ x∈els ++ l,x.cells.length=te.size:=by
                            intro x hx
                            rcases List.mem_append.1 hx with hx | hx
                            · exact hk.cells x hx
                            · exact hS.cells x hx
                          simp only [Nat.zero_mul,Nat.sub_zero] at hvs
                          split at hr
                          · rename_i hroom
                            cases hr
                            obtain ⟨w',cur',hrun,hap⟩:=run_append_in (P:=P) (c:=c) hT rfl hE o.type h1 h2 hk.cap rfl n1 n2 n3 (by omega:els.length + l.length≤m.cap)
                            have hfr2:Fr w e w' e:=⟨hap.os,hap.tape,hap.output,hap.grow,fun k hk' hn=>hap.keep k hk' (fun he=>hn (by cases he; exact ⟨id,m,hm,.inl hb⟩)),fun _ h _=>h,rfl,.refl e⟩
                            have hrow:=hap.row hfr2 hcells holen hold n4
                            replace hrow:RowOk w' e m true ty' te.size (els ++ l):=hrow.at hb rfl hms hk.only
                            have hw:=h.write id (.fix ty' te.size cap (els ++ l)) m hm hfr2 (fun j m' b' hj hm' hb'=>hap.keep b' (h.sim.blk_lt hm' hb') (fun he=>by cases he; exact hj (h.sim.inj j id m' m b hm' hm hb' (.inl hb)))) ⟨hrow,hkc⟩
                            refine main _ w' e (by rw [hvs,hvx]; exact hrun) (hw.congr (fun _=>rfl) (fun j=>by simp [look,look_upd]) rfl) hfr2 ?_
                            have:=Rd.own (w:=w') (e:=e) id 0 (els ++ l).length m b hm hb (by rw [List.length_append]; omega)
                            simpa [List.length_append] using this
                          · rename_i hroom
                            cases hr
                            have hnS:look nid S.objs=none:=by
                              rcases hno (nid,_) (List.mem_cons_self ..) with h1 | h1
                              · simp only at h1; rw [hfr] at h1; cases h1
                              · exact h1
                            obtain ⟨v',w',g,cap',cur',hrun,hap⟩:=run_append_out (P:=P) (c:=c) hT rfl hE o.type h1 h2 hcap rfl n1 n2 hb1 (by unfold maxLen; omega) (by omega)
                            obtain ⟨e',q1,q2,q3⟩:=h.appended (id:=nid) hun (els:=els) (l:=l) hap hcells (fun b hb'=>by cases hb') holen hold n4
                            obtain ⟨g1,g2⟩:=renew_look h (get_none h hnS) (.row true ty' te.size (els ++ l))
                            exact main v' w' e' (by rw [hvs,hvx]; exact hrun) (q1.congr (fun t=>(g1 t).symm) (fun j=>by rw [g2]; simp [look]) (by rw [← q1.size,h.size])) q2 q3
                    · cases hr
                  · cases hr
                · -- nil
                  rename_i hsv
                  have hsS:S.ev s = .val (.slice none 0 0):=by
                    rcases hs.ev s with hd | hd
                    · rw [hd] at hsv; cases hsv
                    · rw [hd]; exact hsv
                  have hrs:=h.ev s
                  rw [hsS] at hrs
                  have hvs:=hrs.val_inv
                  split at hr
                  · rename_i hc
                    obtain ⟨hl0,hb0,hun⟩:=hc
                    obtain ⟨hb1,hb2⟩:=capOk_iff.1 hb0
                    cases hr
                    have hnS:look nid S.objs=none:=by
                      rcases hno (nid,_) (List.mem_cons_self ..) with h1 | h1
                      · simp only at h1; rw [hfr] at h1; cases h1
                      · exact h1
                    rcases hS.val with ⟨rfl,_⟩ | ⟨ad,c,news,hvx,n1,n2,n3,n4⟩
                    · exact absurd rfl hl0
                    · obtain ⟨v',w',g,cap',cur',hrun,hap⟩:=run_append_none (P:=P) (w:=w) (c:=c) (a0:=none) hT rfl hE o.type (List.length_pos_iff.2 hl0) n1 n2 hb1 (by unfold maxLen; omega)
                      obtain ⟨e',q1,q2,q3⟩:=h.appended (id:=nid) hun (els:=[]) (l:=l) hap (by simpa using hS.cells) (fun b hb'=>by cases hb') (by simp) (fun i x hx=>by simp at hx) n4
                      obtain ⟨g1,g2⟩:=renew_look h (get_none h hnS) (.row true ty te.size ([] ++ l))
                      exact main v' w' e' (by rw [hvs,hvx]; exact hrun) (q1.congr (fun t=>(g1 t).symm) (fun j=>by rw [g2]; simp [look]) (by rw [← q1.size,h.size])) q2 q3
                  · cases hr
                · cases hr
              · cases hr
            · cases hr
          · cases hr
        · cases hr
      · cases hr
    · cases hr
  · cases hr
theorem WDraw.app (hΓ:TOk P Γ) (ids:List Nat) {ops rest:List Oper} {deps:List (List Nat)} {eff:List (Nat×List Nat)} {s0 v:St} {K:DrawK} {n k:Nat} {ents ents' : List REnt} {o:Oper} {r:AV} {new:List (Nat×Obj)} (hv:viewSt ops deps eff s0 k ents=v) (hw:wantedA ops o v=some true) (he:evalApp Γ o v=some (r,new))
    (hf:(match slotId o with | some nid=>(look nid v.objs).isNone | none=>true)=true) (hn:outIn ids o v new=true) (hk:ids=[]∨(k,ids)∈eff)
    (hs:ents ++ [⟨o.dst,r,new⟩]=ents') (h:WDraw P ops deps eff s0 K n rest (k + 1) ents'):WDraw P ops deps eff s0 K (n + 1) (o :: rest) k ents:=by
  subst hv; subst hs
  refine ⟨true,hw, ?_⟩
  simp only [if_true]
  exact ⟨r,new,QStep.append hΓ he (fun nid hs=>by rw [hs] at hf; simpa using hf),outIn_all hk hn,h⟩
def nilArgs:List AV→List AV→List AV
  | .val (.slice none 0 0) :: r,_ :: s=>.val (.slice none 0 0) :: nilArgs r s
  | _ :: r,y :: s=>y :: nilArgs r s
  | _,_=>[]
attribute [simp] nilArgs
theorem RowOk.take {w:World} {e:Env} {m:Mta} {d:Bool} {ty:TypeId} {sz:Nat} {els:List AV} (h:RowOk w e m d ty sz els) (k:Nat):RowOk w e m d ty sz (els.take k):=by
  refine ⟨h.hsz,by have:=h.len; rw [List.length_take]; omega,h.cap,fun x hx=>h.cells x (List.mem_of_mem_take hx),h.only, ?_⟩
  have hk:=h.blk
  cases hmb:m.blk with
  | none=>simpa [hmb] using hk
  | some b =>
    simp only [hmb] at hk ⊢
    obtain ⟨cur,h1,h2,h3⟩:=hk
    refine ⟨cur,h1,h2,fun i x hx=>h3 i x ?_⟩
    rw [List.getElem?_take] at hx
    split at hx
    · exact hx
    · cases hx
end
attribute [simp] evalApp St.appQ
end Go.Sim
namespace Go.Sim
open Go.RowKit
section
variable {P:Program} {Γ:TypeId→Option TI}
def AV.putOk (d:Bool):AV→Bool
  | .own _ _ _=>!d
  | .agg l=>!d || AV.isData (.agg l)
  | x=>x.isData
theorem AV.putOk_data {x:AV} (h:x.putOk true=true):x.isData=true:=by
  cases x <;> first | exact h | exact absurd h (by decide)
theorem AV.putOk_dead {d:Bool} {x:AV} (h:x.putOk d=true):x≠.dead:=fun e=>by subst e; exact absurd h (by cases d <;> decide)
attribute [simp] AV.putOk
noncomputable def evalUpd (Γ : TypeId → Option TI) (o : Oper) (st : St) : Option (AV × List (Nat × Obj)) :=
  match o.op with
  | .store t p x=>match Γ t,st.ev p with
    | some ti,.ptr id i off=>match look id st.objs with
      | some (.row d ty s els)=>if (st.ev x).putOk d=true∧(st.ev x).fit=true∧(st.ev x).cells.length=ti.size then
          (match els[i]? with
          | some y=>(match y.setCells off (st.ev x).cells with
            | some y'=>some (.dead,[(id,.row d ty s (els.set i y'))])
            | none=>none)
          | none=>none) else none
      | _=>none
    | _,_=>none
  | .call { callee := .builtin .copy, args, argTypes } => match args.toList, argTypes.toList with
    | [d, x], [t, _] => match Γ t with
      | some ⟨_,_,_,.slice el,_,_⟩=>match Γ el with
        | some te=>if te.size=1 then (match st.ev d with
          | .arr id i off len cap=>(match st.copyA (.arr id i off len cap) (st.ev x) with
            | some (r,s')=>(match look id s'.objs with
              | some ob=>some (r,[(id,ob)])
              | none=>none)
            | none=>none)
          | .own id off len=>(match st.copyA (.own id off len) (st.ev x) with
            | some (r,s')=>(match look id s'.objs with
              | some ob=>some (r,[(id,ob)])
              | none=>none)
            | none=>none)
          | _=>none) else none
        | none=>none
      | _=>none
    | _,_=>none
  | _=>none
theorem Sub.srcC {st S:St} (hs:Sub st S) {o:Operand} {l:List AV} (h:st.srcC (st.ev o)=some l):S.srcC (S.ev o)=some l:=by
  have hev:S.ev o=st.ev o:=by
    rcases hs.ev o with hd | hd
    · rw [hd] at h; simp [St.srcC,St.srcA] at h
    · exact hd
  rw [hev]
  unfold St.srcC at h ⊢
  split at h
  · rename_i id i off len cap
    split at h
    · rename_i d ty s els ho
      rw [hs.2 _ _ ho]; exact h
    · cases h
  · rename_i y hne
    split at h
    · rename_i l' hl
      have:=hs.srcA (o:=o) hl
      rw [hev] at this
      simp only [this]
      exact h
    · cases h
theorem copyA_sub {st S : St} (hs : Sub st S) {x : Operand} {d r : AV} {st' : St} {id : Nat} (hd : (∃ i off len cap, d = .arr id i off len cap) ∨ ∃ off len, d = .own id off len) (h : st.copyA d (st.ev x) = some (r, st')) :
    ∃ ob S',look id st'.objs=some ob∧S.copyA d (S.ev x)=some (r,S')∧S'.tmps=S.tmps∧S'.nt=S.nt∧∀ j,look j S'.objs=if id=j then some ob else look j S.objs:=by
  unfold St.copyA at h ⊢
  split at h
  · rename_i l hl
    rw [hs.srcC hl]
    rcases hd with ⟨i,off,len,cap,rfl⟩ | ⟨off,len,rfl⟩
    · dsimp only at h ⊢
      split at h
      · rename_i dd ty s els ho
        rw [hs.2 _ _ ho]
        dsimp only
        split at h
        · rename_i y hy
          split at h
          · rename_i y' hy'
            cases h
            exact ⟨.row dd ty s (els.set i y'),{ S with objs:=upd id (.row dd ty s (els.set i y')) S.objs },by show look id (upd id _ _)=_; rw [look_upd,if_pos rfl],by simp only [hy,hy'],rfl,rfl,fun j=>by show look j (upd id _ _)=_; rw [look_upd]⟩
          · cases h
        · cases h
      · cases h
    · dsimp only at h ⊢
      split at h
      · rename_i ty s els ho
        rw [hs.2 _ _ ho]
        dsimp only
        split at h
        · rename_i hc
          rw [if_pos hc]
          cases h
          exact ⟨.row true ty 1 (setSeg els off (l.take len)),_,by show look id (upd id _ _)=_; rw [look_upd,if_pos rfl],rfl,rfl,rfl,fun j=>by show look j (upd id _ _)=_; rw [look_upd]⟩
        · cases h
      · cases h
  · cases h
theorem QStep.upd (hΓ : TOk P Γ) {o : Oper} {st : St} {r : AV} {new : List (Nat × Obj)} (hr : evalUpd Γ o st = some (r, new)) : QStep P o st r new := by
  intro S rd a w e h hs _ next Q hn
  have main:∀ (id:Nat) (ob:Obj) (S' : St),new=[(id,ob)]→evalAll Γ o S=some (r,S')→S'.tmps=S.tmps→S'.nt=S.nt→(∀ j,look j S'.objs=if id=j then some ob else look j S.objs)→o.wpIn (FR rd) 0 P a w next Q:=by
    intro id ob S' hnew hev ht hnt hobj
    obtain ⟨v,w',e',hst,hc,hf,hrd⟩:=evalAll_ok hΓ hev h
    have hc' : Conc { S with objs:=new ++ S.objs } a w' e':=hc.congr (fun t=>by rw [ht]) (fun j=>by rw [hobj,hnew]; simp [look]) hnt.symm
    refine ⟨fun _ _=>trivial, ?_⟩
    rcases hst with hst | ⟨hst,rfl⟩
    · rw [semAt_ok hst (by simp)]; exact hn v w' e' hc' hf hrd
    · rw [semAt_ok hst (by simp)]; exact hn _ w' e' hc' hf hrd
  unfold evalUpd at hr
  split at hr
  · rename_i t p x ho
    split at hr
    · rename_i ti id i off hti hp
      split at hr
      · rename_i d ty s els hobj
        split at hr
        · rename_i hc
          split at hr
          · rename_i y hy
            split at hr
            · rename_i y' hy'
              cases hr
              have hpS:S.ev p = .ptr id i off:=by
                rcases hs.ev p with hd | hd
                · rw [hp] at hd; cases hd
                · rw [hd,hp]
              have hxS:S.ev x=st.ev x:=by
                rcases hs.ev x with hd | hd
                · exact absurd hd (AV.putOk_dead hc.1)
                · exact hd
              refine main id _ { S with objs:=Go.Sim.upd id (.row d ty s (els.set i y')) S.objs } rfl ?_ rfl rfl (fun j=>by simp [look_upd])
              have hcore:S.storeAt ti.size (.ptr id i off) (st.ev x)=some { S with objs:=Go.Sim.upd id (.row d ty s (els.set i y')) S.objs }:=by
                unfold St.storeAt
                simp only [hs.2 _ _ hobj]
                cases d with
                | true =>
                  simp only [if_true,toDataE_data (AV.putOk_data hc.1),hs.2 _ _ hobj]
                  rw [if_pos ⟨trivial,hc.2.1,hc.2.2⟩]
                  simp only [hy,hy']
                | false =>
                  simp only [Bool.false_eq_true,if_false,hs.2 _ _ hobj]
                  rw [if_pos ⟨trivial,hc.2.1,hc.2.2⟩]
                  simp only [hy,hy']
              simp only [evalAll,isWrite,ho,evalW,evalW0,hti,hpS,hxS,hcore,Option.map_some]
            · cases hr
          · cases hr
        · cases hr
      · cases hr
    · cases hr
  · rename_i args tys ho
    split at hr
    · rename_i d x t t2 ha ht
      split at hr
      · rename_i s1 s2 s3 el s4 s5 hti
        split at hr
        · rename_i te hte
          split at hr
          · rename_i hsz
            split at hr
            · rename_i id i off len cap hd
              split at hr
              · rename_i r' s' hcp
                split at hr
                · rename_i ob hob
                  cases hr
                  obtain ⟨ob',S',k1,k2,k3,k4,k5⟩:=copyA_sub hs (.inl ⟨i,off,len,cap,rfl⟩) hcp
                  rw [hob] at k1; cases k1
                  have hdS:S.ev d = .arr id i off len cap:=by
                    rcases hs.ev d with hd' | hd'
                    · rw [hd] at hd'; cases hd'
                    · rw [hd',hd]
                  exact main id _ S' rfl (by simp only [evalAll,isWrite,ho,evalW,ha,ht,hti,hte,hsz,hdS,k2,if_true]) k3 k4 k5
                · cases hr
              · cases hr
            · rename_i id off len hd
              split at hr
              · rename_i r' s' hcp
                split at hr
                · rename_i ob hob
                  cases hr
                  obtain ⟨ob',S',k1,k2,k3,k4,k5⟩:=copyA_sub hs (.inr ⟨off,len,rfl⟩) hcp
                  rw [hob] at k1; cases k1
                  have hdS:S.ev d = .own id off len:=by
                    rcases hs.ev d with hd' | hd'
                    · rw [hd] at hd'; cases hd'
                    · rw [hd',hd]
                  exact main id _ S' rfl (by simp only [evalAll,isWrite,ho,evalW,ha,ht,hti,hte,hsz,hdS,k2,if_true]) k3 k4 k5
                · cases hr
              · cases hr
            · cases hr
          · cases hr
        · cases hr
      · cases hr
    · cases hr
  · cases hr
theorem WDraw.upd (hΓ:TOk P Γ) (ids:List Nat) {ops rest:List Oper} {deps:List (List Nat)} {eff:List (Nat×List Nat)} {s0 v:St} {K:DrawK} {n k:Nat} {ents ents' : List REnt} {o:Oper} {r:AV} {new:List (Nat×Obj)} (hv:viewSt ops deps eff s0 k ents=v) (hw:wantedA ops o v=some true) (he:evalUpd Γ o v=some (r,new))
    (hn:outIn ids o v new=true) (hk:ids=[]∨(k,ids)∈eff) (hs:ents ++ [⟨o.dst,r,new⟩]=ents') (h:WDraw P ops deps eff s0 K n rest (k + 1) ents'):WDraw P ops deps eff s0 K (n + 1) (o :: rest) k ents:=by
  subst hv; subst hs
  refine ⟨true,hw, ?_⟩
  simp only [if_true]
  exact ⟨r,new,QStep.upd hΓ he,outIn_all hk hn,h⟩
def dedupL:List (Nat×Obj)→List (Nat×Obj)
  | []=>[]
  | (k,o) :: r=>(k,o) :: del k (dedupL r)
theorem look_dedupL (j:Nat):∀ l:List (Nat×Obj),look j (dedupL l)=look j l
  | []=>rfl
  | (k,o) :: r=>by
    simp only [dedupL,look,look_del,look_dedupL j r]
    by_cases h:k=j <;> simp [h]
theorem Le.dedup {st:St}:Le st { st with objs:=dedupL st.objs }:=fun _ w e h=>⟨e,h.congr (fun _=>rfl) (fun j=>look_dedupL j st.objs) rfl,Fr.refl w e⟩
end
attribute [simp] dedupL
attribute [simp] evalUpd
end Go.Sim
namespace Go.Sim
open Go.RowKit
section
variable {P:Program} {Γ:TypeId→Option TI}
theorem run_append_roomO (w:World) (t ty e:TypeId) (i:TypeInfo) (ht:P.underlying t=some (.slice e)) (hi:P.info? e=some i)
    (g off sLen sCap:Nat) (cur:Array Value) (hg:w.heap[g]?=some (.cells cur e (0,0)))
    (a:Addr) (m c:Nat) (news:List Value) (hl:news.length=m * i.size) (hnews:∀ j u,news[j]?=some u→w.cell? (a.add j)=some u) (h1:∀ u∈news,u.oneCell'=true)
    (hroom:sLen + m≤sCap) (hfit:off + sLen * i.size + news.length≤cur.size) :
    (Builtin.append_ #[t,t] ty #[.slice (some ⟨g,off,none⟩) sLen sCap,.slice (some a) m c]).run P w =
      .ok (.slice (some ⟨g,off,none⟩) (sLen + m) sCap) (w.setRow g (cur.toList.take (off + sLen * i.size) ++ news ++ cur.toList.drop (off + sLen * i.size + news.length)).toArray):=by
  have hf:=run_firstCells_some (P:=P) w i.size m a m c news hl hnews
  have hst:=run_storeCells_at P g (off + sLen * i.size) e news 0 cur w hg (by simpa using hfit) h1
  simp only [Nat.add_zero] at hst
  simp [Builtin.append_,run_underlying ht,sizeOf,typeInfo,hi,Builtin.lenOf,hroom,hf,Addr.add_lit,hst]
theorem Conc.appendO {st:St} {a:Act} {w:World} {e:Env} (h:Conc st a w e) {t ty:TypeId} {ti te:TI} (hti:TIOk P t ti) (hd:ti.desc = .slice ty) (hte:TIOk P ty te) (rt:TypeId) {s x:Operand} {id off len:Nat} {els l:List AV}
    (hs:st.ev s = .own id off len) (ho:look id st.objs=some (.row true ty te.size els)) (hlen:off + len=els.length) (hl0:l≠[]) (hz:0 < te.size) (hsrc:st.srcA te.size (st.ev x)=some l) (hb0:capOk (els.length + l.length) te.bytes=true) (hu:unp id=true) :
    ∃ v w' e' els' off', (Builtin.append_ #[t, t] rt #[a.eval s, a.eval x]).run P w = .ok v w' ∧ ((els' = els ++ l ∧ off' = off) ∨ (els' = els.drop off ++ l ∧ off' = 0)) ∧
      Conc (st.renew id (.row true ty te.size els')) a w' e'∧Fr w e w' e'∧Rd w' e' (.own id off' (len + l.length)) v:=by
  obtain ⟨hb1,hb2⟩:=capOk_iff.1 hb0
  have hS:=h.src hz (h.ev x) hsrc
  have hrs:=h.ev s
  rw [hs] at hrs
  have hlp:0 < l.length:=List.length_pos_iff.2 hl0
  rcases hS.val with ⟨rfl,_⟩ | ⟨ad,c,news,hvx,n1,n2,n3,n4⟩
  · exact absurd rfl hl0
  rw [hvx]
  generalize a.eval s=vs at hrs
  obtain ⟨k,hk,hks,hkb,hkz⟩:=hte.parts
  have hund:P.underlying t=some (.slice ty):=by rw [hti.und,hd]
  cases hrs with
  | data hs=>cases hs
  | own0 _ m hm hb a0 =>
    have hkk:=h.sim.obj id _ m ho hm
    have hcap0:m.cap=0:=by have:=hkk.blk; simpa [hb] using this
    have hels:els=[]:=List.eq_nil_of_length_eq_zero (by have:=hkk.len; omega)
    subst hels
    simp only [List.length_nil,Nat.zero_add] at hb1 hb2
    obtain ⟨v',w',g,cap',cur',hrun,hap⟩:=run_append_none (P:=P) (w:=w) (c:=c) (a0:=a0) hti hd hte rt hlp n1 n2 hb1 (by unfold maxLen; omega)
    obtain ⟨e',q1,q2,q3⟩:=h.appended (id:=id) hu (els:=[]) (l:=l) hap (by simpa using hS.cells) (fun b hb'=>by cases hb') (by simp) (fun i x hx=>by simp at hx) n4
    exact ⟨v',w',e',[] ++ l,0,hrun,.inl ⟨rfl,rfl⟩,q1,q2,by simpa using q3⟩
  | ownX _ _ _ m hm hg=>exact absurd hg (h.sim.obj id _ m ho hm).ngone
  | own _ _ _ m b hm hb hc =>
    have hkk:=h.sim.obj id _ m ho hm
    have hkb':=hkk.blk
    simp only [hb] at hkb'
    obtain ⟨cur,h1,h2,h3⟩:=hkb'
    have hms:m.sz=te.size:=hkk.hsz
    rw [hms]
    have hcap:=hkk.len
    have hcl:cur.toList.length=m.cap * te.size:=by rw [← h2]; exact Array.length_toList
    have hcells:∀ x∈els ++ l,x.cells.length=te.size:=by
      intro x hx
      rcases List.mem_append.1 hx with hx | hx
      · exact hkk.cells x hx
      · exact hS.cells x hx
    by_cases hroom:len + l.length≤m.cap - off
    · -- in place
      have hfit:els.length * te.size + news.length≤cur.size:=by rw [n1,h2,← Nat.add_mul]; exact Nat.mul_le_mul_right _ (by omega)
      have hoff:off * te.size + len * te.size=els.length * te.size:=by rw [← Nat.add_mul,hlen]
      have hr:=run_append_roomO (P:=P) w t rt ty k hund hk b (off * te.size) len (m.cap - off) cur h1 ad l.length c news (by rw [hks]; exact n1) n2 n3 hroom (by rw [hks,hoff]; exact hfit)
      rw [hks,hoff] at hr
      have holen:(cur.toList.take (els.length * te.size)).length=els.length * te.size:=by
        rw [List.length_take,hcl,Nat.min_eq_left]; exact Nat.mul_le_mul_right _ hcap
      have hold:∀ (i:Nat) (x:AV),els[i]?=some x→∀ (j:Nat) (y:AV),x.cells[j]?=some y→∃ v,(cur.toList.take (els.length * te.size))[i * te.size + j]?=some v∧v.oneCell'=true∧RdD w e.q y v:=by
        intro i x hx j y hy
        obtain ⟨v,g1,g2,g3⟩:=h3 i x hx j y hy
        have hi:i < els.length:=(List.getElem?_eq_some_iff.1 hx).1
        have hj:j < te.size:=by rw [← hkk.cells x (List.mem_of_getElem? hx)]; exact (List.getElem?_eq_some_iff.1 hy).1
        have hlt:i * te.size + j < els.length * te.size:=by
          have:(i + 1) * te.size≤els.length * te.size:=Nat.mul_le_mul_right _ hi
          rw [Nat.add_mul,Nat.one_mul] at this; omega
        exact ⟨v,by rw [List.getElem?_take,if_pos hlt]; simpa using g1,g2,by simpa [CellRd] using g3⟩
      have hap:Appended w (w.setRow b (cur.toList.take (els.length * te.size) ++ news ++ cur.toList.drop (els.length * te.size + news.length)).toArray) ty te.size els.length l.length (some b) (cur.toList.take (els.length * te.size)) news (.slice (some ⟨b,0,none⟩) (els.length + l.length) m.cap) b m.cap (cur.toList.take (els.length * te.size) ++ news ++ cur.toList.drop (els.length * te.size + news.length)).toArray:=by
        refine ⟨rfl,setRow_heap w b cur _ ty _ h1, ?_,by omega,hkk.cap,.inl rfl,fun p hp=>?_,rfl,rfl,rfl,by simp,fun q _ hq=>setRow_other w b q _ (fun e=>hq (by rw [e]))⟩
        · simp only [List.size_toArray,List.length_append,List.length_take,List.length_drop,Array.length_toList]; omega
        · rw [List.getElem?_toArray,List.getElem?_append_left]
          rw [List.length_append,holen,n1,← Nat.add_mul]; exact hp
      obtain ⟨e',q1,q2,q3⟩:=h.appended (id:=id) hu (els:=els) (l:=l) hap hcells (fun b' hb'=>by cases hb'; exact ⟨m,hm,hb⟩) holen hold n4
      refine ⟨_,_,e',els ++ l,off,hr,.inl ⟨rfl,rfl⟩,q1,q2, ?_⟩
      obtain ⟨m',hm'⟩:=Option.isSome_iff_exists.1 (show (e'.get id).isSome=true by rw [q1.sim.dom]; simp [St.renew,look])
      have hk':=q1.sim.obj id (.row true ty te.size (els ++ l)) m' (by simp [St.renew,look,Obj.map]) hm'
      generalize hvv:(Value.slice (some ⟨b,0,none⟩) (els.length + l.length) m.cap)=vv at q3
      generalize hnn:(els ++ l).length=nn at q3
      have hnn' : nn=els.length + l.length:=by rw [← hnn,List.length_append]
      cases q3 with
      | data hq=>cases hq
      | own0 _ m2 hm2 hb2=>simp at hvv; omega
      | ownX _ _ _ m2 hm2 hg2=>rw [hm'] at hm2; cases hm2; exact absurd hg2 hk'.ngone
      | own _ _ _ m2 b2 hm2 hb2 hc2 =>
        rw [hm'] at hm2; cases hm2
        simp only [Nat.zero_mul,Nat.sub_zero,Value.slice.injEq,Option.some.injEq,Addr.mk.injEq,and_true] at hvv
        obtain ⟨rfl,hv2,hv3⟩:=hvv
        have hms' : m'.sz=te.size:=hk'.hsz
        have:=Rd.own (w:=w.setRow b (cur.toList.take (els.length * te.size) ++ news ++ cur.toList.drop (els.length * te.size + news.length)).toArray) (e:=e') id off (len + l.length) m' b hm' hb2 (by omega)
        rwa [hms',← hv3] at this
    · -- moved
      have hvl:(els.drop off).length=len:=by rw [List.length_drop]; omega
      have holen:((cur.toList.drop (off * te.size)).take (len * te.size)).length=len * te.size:=by
        rw [List.length_take,List.length_drop,hcl,Nat.min_eq_left]
        rw [← Nat.sub_mul]; exact Nat.mul_le_mul_right _ (by omega)
      have holds:∀ (j:Nat) (u:Value),((cur.toList.drop (off * te.size)).take (len * te.size))[j]?=some u→w.cell? ((⟨b,off * te.size,none⟩:Addr).add j)=some u:=by
        intro j u hj
        rw [addr_add,cell_of_row w b _ cur ty (0,0) h1]
        rw [List.getElem?_take] at hj
        split at hj
        · rw [List.getElem?_drop] at hj; simpa using hj
        · cases hj
      have h63:len + l.length≤maxLen:=by unfold maxLen; omega
      have hbytes:(len + l.length) * te.bytes≤140737488355328:=Nat.le_trans (Nat.mul_le_mul_right _ (by omega)) hb1
      have hr:=run_append_grow (P:=P) w t rt ty k te.zero hund hk hkz ⟨b,off * te.size,none⟩ len (m.cap - off) _ (by rw [hks]; exact holen) holds ad l.length c news (by rw [hks]; exact n1) n2 (by omega) (by simp only [maxLen] at h63; omega) (growslice_fits (by omega) (by rw [hkb]; exact hbytes))
      have hge:=grownCap_ge w (len + l.length) (m.cap - off) ty
      generalize hC:(((cur.toList.drop (off * te.size)).take (len * te.size)).toArray ++ news.toArray ++ Builtin.zeroCells te.zero.cells (grownCap w (len + l.length) (m.cap - off) ty - (len + l.length)))=C at hr
      have hap:Appended w (w.drew.alloc (.cells C ty)) ty te.size (els.drop off).length l.length none ((cur.toList.drop (off * te.size)).take (len * te.size)) news (.slice (some ⟨w.heap.size,0,none⟩) ((els.drop off).length + l.length) (grownCap w (len + l.length) (m.cap - off) ty)) w.heap.size (grownCap w (len + l.length) (m.cap - off) ty) C:=by
        rw [hvl]
        refine ⟨rfl,heap_alloc_new w.drew _, ?_,hge,grownCap_le_maxLen w (len + l.length) (m.cap - off) ty h63,.inr (Nat.le_refl _),fun p hp=>?_,rfl,rfl,rfl,by simp,fun q hq _=>heap_alloc_old w.drew _ q hq⟩
        · rw [← hC]
          simp only [Array.size_append,List.size_toArray,size_zeroCells,hte.zsz,holen,n1,← Nat.add_mul]
          congr 1; omega
        · have hlen2:(((cur.toList.drop (off * te.size)).take (len * te.size)) ++ news).length=(len + l.length) * te.size:=by rw [List.length_append,holen,n1,Nat.add_mul]
          rw [← hC,Array.getElem?_append_left (by simp only [Array.size_append,List.size_toArray]; rw [List.length_append] at hlen2; omega),List.append_toArray,List.getElem?_toArray]
      obtain ⟨e',q1,q2,q3⟩:=h.appended (id:=id) hu (els:=els.drop off) (l:=l) hap (fun x hx=>by
        rcases List.mem_append.1 hx with hx | hx
        · exact hkk.cells x (List.mem_of_mem_drop hx)
        · exact hS.cells x hx) (fun b' hb'=>by cases hb') (by rw [hvl]; exact holen) (fun i x hx j y hy=>by
        rw [List.getElem?_drop] at hx
        obtain ⟨v,g1,g2,g3⟩:=h3 (off + i) x hx j y hy
        have hi:off + i < els.length:=(List.getElem?_eq_some_iff.1 hx).1
        have hj:j < te.size:=by rw [← hkk.cells x (List.mem_of_getElem? hx)]; exact (List.getElem?_eq_some_iff.1 hy).1
        have hlt:i * te.size + j < len * te.size:=by
          have:(i + 1) * te.size≤len * te.size:=Nat.mul_le_mul_right _ (by omega)
          rw [Nat.add_mul,Nat.one_mul] at this; omega
        refine ⟨v, ?_,g2,by simpa [CellRd] using g3⟩
        rw [List.getElem?_take,if_pos hlt,List.getElem?_drop]
        rw [Array.getElem?_toList,← g1]; congr 1; rw [Nat.add_mul]; omega) n4
      refine ⟨_,_,e',els.drop off ++ l,0,hr,.inr ⟨rfl,rfl⟩,q1,q2, ?_⟩
      rw [List.length_append,hvl] at q3
      exact q3
theorem Conc.sliceO {st:St} {a:Act} {w:World} {e:Env} (h:Conc st a w e) {t ty:TypeId} {ti te:TI} (hti:TIOk P t ti) (hd:ti.desc = .slice ty) (hte:TIOk P ty te) {x lo:Operand} {id off len k:Nat} {q:IntKind} {els:List AV}
    (hx:st.ev x = .own id off len) (hlo:st.ev lo = .val (.int q (k:Int))) (ho:look id st.objs=some (.row true ty te.size els)) (hlen:off + len=els.length) (hk:k≤len) (hu:unp id=true) :
    ∃ v e' els' off', (Instr.sliceAt t (a.eval x) (some (a.eval lo)) none none).run P w = .ok v w ∧ ((els' = els ∧ off' = off + k) ∨ (els' = [] ∧ off' = 0 ∧ k = len)) ∧
      Conc (st.renew id (.row true ty te.size els')) a w e'∧Fr w e w e'∧Rd w e' (.own id off' (len - k)) v:=by
  have hrx:=h.ev x
  rw [hx] at hrx
  have hrl:OptRd w e (some (.val (.int q (k:Int)))) (some (a.eval lo)):=by have:=h.ev lo; rwa [hlo] at this
  have hat:∀ v0,(Instr.sliceAt t v0 (some (a.eval lo)) none none).run P w=(Instr.slice t v0 (some (a.eval lo)) none none).run P w:=by
    intro v0
    simp [Instr.sliceAt,run_und hti,hd]
  have hslice:∀ (ad:Option Addr) (len cap:Nat),k≤len→len≤cap →
      (Instr.slice t (.slice ad len cap) (some (a.eval lo)) none none).run P w = .ok (.slice (if cap=k then ad else ad.map (·.add (k * te.size))) (len - k) (cap - k)) w:=by
    intro ad len cap h1 h2
    have e1:=boundsA_run (P:=P) (w:=w) (e:=e) (len:=len) (lo:=some (.val (.int q (k:Int)))) (hi:=none) (k:=k) (h:=len) rfl (by simp [lowA]) (vh:=none) trivial hrl h1 h2 true
    have e3:=run_size hte w
    simp only [Instr.slice,Sem.run_bind,run_und hti,Result.andThen_ok,hd,Sem.run_pure,e1,e3]
  rw [hat]
  generalize a.eval x=vx at hrx
  cases hrx with
  | data hs=>cases hs
  | own0 _ m hm hb a0 =>
    have hkk:=h.sim.obj id _ m ho hm
    have hcap0:m.cap=0:=by have:=hkk.blk; simpa [hb] using this
    have hels:els=[]:=List.eq_nil_of_length_eq_zero (by have:=hkk.len; omega)
    subst hels
    obtain rfl:k=0:=by omega
    have hno:∀ b,¬ m.has b:=fun b hb'=>by rcases hb' with hb' | hb' <;> first | (rw [hb] at hb'; cases hb') | exact hkk.only b hb'
    have:=h.renew id (.row true ty te.size []) m (Fr.set_self hm) (fun b hb'=>absurd hb' (hno b)) (fun _ _ _ _ _ _=>rfl) ⟨hkk.hsz,by simp,hkk.cap,fun x hx=>by simp at hx,hkk.only,by simpa [hb] using hcap0⟩ (fun b hb'=>absurd hb' (hno b))
    exact ⟨_,e.set id m,[],0,hslice a0 0 0 (Nat.le_refl _) (Nat.le_refl _),.inl ⟨rfl,rfl⟩,this,Fr.set_self hm,by simpa using Rd.own0 id m (by simp [Env.set]) hb a0⟩
  | ownX _ _ _ m hm hg=>exact absurd hg (h.sim.obj id _ m ho hm).ngone
  | own _ _ _ m b hm hb hc =>
    have hkk:=h.sim.obj id _ m ho hm
    have hms:m.sz=te.size:=hkk.hsz
    have hrun:=hslice (some ⟨b,off * m.sz,none⟩) len (m.cap - off) hk (by omega)
    by_cases hkc:m.cap - off=k
    · obtain ⟨q1,q2⟩:=h.phantom id hu ty te.size
      rw [if_pos hkc] at hrun
      refine ⟨_,_,[],0,hrun,.inr ⟨rfl,rfl,by omega⟩,q1,q2, ?_⟩
      rw [show len - k=0 by omega,show m.cap - off - k=0 by omega]
      exact Rd.own0 id (mt none 0 te.size) (by simp [Env.set]) rfl _
    · rw [if_neg hkc] at hrun
      have hfr:Fr w e w (e.set id m):=Fr.set_self hm
      have:=h.renew id (.row true ty te.size els) m hfr (fun b hb j m' hj hm' hb'=>hj (h.sim.inj j id m' m b hm' hm hb' hb)) (fun _ _ _ _ _ _=>rfl) (RowOk.keepT hkk (fun _ _=>rfl) fun _ _ g=>g.fr hfr) (fun b hb=>h.sim.prok b ⟨id,m,hm,hb⟩)
      refine ⟨_,e.set id m,els,off + k,hrun,.inl ⟨rfl,rfl⟩,this,hfr, ?_⟩
      have hr:=Rd.own (w:=w) (e:=e.set id m) id (off + k) (len - k) m b (by simp [Env.set]) hb (by omega)
      simp only [Option.map_some,addr_add]
      rwa [show (off + k) * m.sz=off * m.sz + k * te.size from by rw [hms,Nat.add_mul],show m.cap - (off + k)=m.cap - off - k from by omega] at hr
theorem WOps.sliceO (hΓ:TOk P Γ) {ops rest:List Oper} {K:St→Prop} {o:Oper} {st:St} {x lo:Operand} {t ty:TypeId} {ti te:TI} {α:Type} (f:α→AV) (z:List α) (k:Nat) {id off len:Nat} {q:IntKind}
    (ho:o.op = .slice t x (some lo) none none) (hg:o.guard=none) (hd:dstOk o st=true) (hti:Γ t=some ti) (hdd:ti.desc = .slice ty) (hte:Γ ty=some te)
    (hs:st.ev x = .own id off len) (hob:look id st.objs=some (.row true ty te.size (z.map f))) (hlo:st.ev lo = .val (.int q (k:Int))) (hlen:off + len=z.length) (hk:k≤len) (hu:unp id=true)
    (hK:∀ (z' : List α) (off' : Nat),z'.drop off'=z.drop (off + k)→off' + (len - k)=z'.length→z'.length≤z.length→WOps P ops K rest ((st.renew id (.row true ty te.size (z'.map f))).put o.dst (.own id off' (len - k)))):WOps P ops K (o :: rest) st:=by
  refine ⟨hd,true,by simp [wantedA,hg], ?_⟩
  simp only [if_true]
  intro rd a w e h next Q hnext
  obtain ⟨v,e',els',off',hrun,hcase,hc,hf,hr⟩:=h.sliceO (P:=P) (hΓ _ _ hti) hdd (hΓ _ _ hte) hs hlo hob (by simpa using hlen) hk hu
  obtain ⟨z',rfl,hz1,hz2,hz3⟩:∃ z' : List α,els'=z'.map f∧z'.drop off'=z.drop (off + k)∧off' + (len - k)=z'.length∧z'.length≤z.length:=by
    rcases hcase with ⟨rfl,rfl⟩ | ⟨rfl,rfl,rfl⟩
    · exact ⟨z,rfl,rfl,by omega,Nat.le_refl _⟩
    · exact ⟨[],rfl,by rw [List.drop_of_length_le (l:=z) (by omega)]; rfl,by simp,by simp⟩
  refine ⟨fun _ _=>trivial, ?_⟩
  have hst:(execOp a.eval o).run P w = .ok (.value v) w:=by simp [execOp,ho,hrun]
  rw [semAt_ok hst (by simp)]
  exact hnext (.own id off' (len - k)) _ v w e' (hK z' off' hz1 hz2 hz3) hc hf hr
theorem WOps.appO (hΓ:TOk P Γ) {ops rest:List Oper} {K:St→Prop} {o:Oper} {st:St} {s x:Operand} {t ty:TypeId} {ti te:TI} {α:Type} (f:α→AV) (z l:List α) {id off len:Nat}
    (ho:o.op = .call { callee:=.builtin .append,args:=#[s,x],argTypes:=#[t,t] }) (hg:o.guard=none) (hd:dstOk o st=true) (hti:Γ t=some ti) (hdd:ti.desc = .slice ty) (hte:Γ ty=some te)
    (hs:st.ev s = .own id off len) (hob:look id st.objs=some (.row true ty te.size (z.map f))) (hlen:off + len=z.length) (hl0:0 < l.length) (hz:0 < te.size) (hsrc:st.srcA te.size (st.ev x)=some (l.map f)) (hb0:capOk (z.length + l.length) te.bytes=true) (hu:unp id=true)
    (hK:∀ (z' : List α) (off' : Nat),z'.drop off'=z.drop off ++ l→off' + (len + l.length)=z'.length→z'.length≤z.length + l.length→WOps P ops K rest ((st.renew id (.row true ty te.size (z'.map f))).put o.dst (.own id off' (len + l.length)))):WOps P ops K (o :: rest) st:=by
  refine ⟨hd,true,by simp [wantedA,hg], ?_⟩
  simp only [if_true]
  intro rd a w e h next Q hnext
  obtain ⟨v,w',e',els',off',hrun,hcase,hc,hf,hr⟩:=h.appendO (P:=P) (hΓ _ _ hti) hdd (hΓ _ _ hte) o.type (x:=x) (l:=l.map f) hs hob (by simpa using hlen) (fun hn=>by rw [List.map_eq_nil_iff] at hn; subst hn; simp at hl0) hz hsrc (by simpa using hb0) hu
  obtain ⟨z',rfl,hz1,hz2,hz3⟩:∃ z' : List α,els'=z'.map f∧z'.drop off'=z.drop off ++ l∧off' + (len + l.length)=z'.length∧z'.length≤z.length + l.length:=by
    rcases hcase with ⟨rfl,rfl⟩ | ⟨rfl,rfl⟩
    · exact ⟨z ++ l,by simp,by rw [List.drop_append_of_le_length (by omega)],by rw [List.length_append]; omega,by rw [List.length_append]; omega⟩
    · exact ⟨z.drop off ++ l,by rw [List.map_append,List.map_drop],rfl,by rw [List.length_append,List.length_drop]; omega,by rw [List.length_append,List.length_drop]; omega⟩
  rw [List.length_map] at hr
  refine ⟨fun _ _=>trivial, ?_⟩
  have hst:(execOp a.eval o).run P w = .ok (.value v) w':=by simp [execOp,ho,resolve,invoke,builtin,hrun]
  rw [semAt_ok hst (by simp)]
  exact hnext (.own id off' (len + l.length)) _ v w' e' (hK z' off' hz1 hz2 hz3) hc hf hr
end
end Go.Sim
namespace Go.Sim
open Go.RowKit
section
variable {P:Program} {Γ:TypeId→Option TI}
def YieldOk (P : Program) (l : Nat) (J : Fgn) (ty : TypeId) (vals : List Value) (R : Bool → Fgn → Prop) : Prop :=
  ∀ (w : World) (S : Nat → Prop) (g cap : Nat) (cur : Array Value), J.J w S → (∀ b, S b → b < w.heap.size) → S l → ¬ S g → ¬ J.F g → w.heap[g]? = some (.cells cur ty (0, 0)) → cur.size = cap → vals.length ≤ cap → cap ≤ maxLen →
    (∀ (i:Nat) (v:Value),vals[i]?=some v→cur[i]?=some v∧v.oneCell'=true) →
    ∃ fn tmps assign body, (Instr.yield l #[.slice (some ⟨g, 0, none⟩) vals.length cap]).run P w = .ok (.round l fn tmps assign body) w ∧
      RoundIn Fence.wide 0 P l fn tmps assign body w fun en w'=>∃ t J' S',en = .returned (.bool t)∧R t J'∧J'.F=J.F∧J'.J w' S'∧Stab J'∧S' l ∧
        (∀ b,S' b→b < w'.heap.size)∧(∀ b,S' b→b < w.heap.size→S b∨b=g)∧w'.os=w.os∧w'.tape=w.tape∧w'.output=w.output∧w.heap.size≤w'.heap.size ∧
        ∀ b,b < w.heap.size→¬ S b→b≠g→w'.heap[b]?=w.heap[b]?
theorem roundIn_FR {rd:Option Nat} {l:Nat} {f:FuncId} {tmps:Array Value} {assign body:Code} {w:World} {R:Ending→World→Prop} (h:RoundIn Fence.wide 0 P l f tmps assign body w R):RoundIn (FR rd) 0 P l f tmps assign body w R:=by
  cases rd with
  | none=>exact h
  | some l=>exact h
theorem upon_yield {o:Oper} {f:Operand} {args:Array Operand} {tys:Array TypeId} (ho:o.op = .call { callee:=.value f,args,argTypes:=tys }) {a:Act} {l:Nat} (hf:a.eval f = .func (.yield l) #[] #[])
    {rd:Option Nat} {w:World} {next:Act→World→Prop} {Q:Exit→Act→World→Prop} {fn:FuncId} {tmps:Array Value} {assign body:Code} (hy:(Instr.yield l (args.map a.eval)).run P w = .ok (.round l fn tmps assign body) w)
    (h:RoundIn Fence.wide 0 P l fn tmps assign body w fun | .returned v,w''=>next (a.put o.dst v) w'' | .panicked chain,w''=>Q (.panic chain) a w'' | .outgrown,_=>LetsOut Q):o.wpIn (FR rd) 0 P a w next Q:=by
  refine ⟨fun _ _=>trivial, ?_⟩
  have hrun:(execOp a.eval o).run P w = .ok (.round l fn tmps assign body) w:=by
    simp [execOp,ho,resolve,hf,Deferred.ofValue,invoke,hy]
  rw [semAt_ok hrun (by simp)]
  exact ⟨fun hd=>by simp [FR] at hd,roundIn_FR h⟩
def St.yielded (st:St) (g l:Nat) (J:Fgn):St:=
  { st.turn g (AV.kill g) with objs:=upd 19999 (.ext l J) (st.turn g (AV.kill g)).objs }
theorem WOp.yield {o:Oper} {f x:Operand} {tys:Array TypeId} (ho:o.op = .call { callee:=.value f,args:=#[x],argTypes:=tys }) {st:St} {l g n:Nat} {J:Fgn} {ty:TypeId} {vals:List Value} {R:Bool→Fgn→Prop}
    (hf:st.ev f = .yld 19999) (hobj:look 19999 st.objs=some (.ext l J)) (hx:st.ev x = .own g 0 n) (hog:look g st.objs=some (.row true ty 1 (vals.map AV.val))) (hn:n=vals.length) (hn0:0 < n) (hu:unp g=true) (hy:YieldOk P l J ty vals R)
    {K:AV→St→Prop} (hK:∀ t J',R t J'→K (.val (.bool t)) (st.yielded g l J')):WOp P o st K:=by
  intro rd a w e h next Q hnext
  obtain ⟨m19,hm19⟩:=Option.isSome_iff_exists.1 (show (e.get 19999).isSome=true by rw [h.sim.dom,hobj]; rfl)
  have hE:ExtOk w e m19 l J:=h.sim.obj 19999 _ m19 hobj hm19
  have hrf:=h.ev f
  rw [hf] at hrf
  have hfv:a.eval f = .func (.yield l) #[] #[]:=by
    generalize a.eval f=vf at hrf ⊢
    cases hrf with
    | data hd=>cases hd
    | yld _ m b hm hb =>
      rw [hm19] at hm; cases hm
      rw [hE.blk] at hb; cases hb; rfl
    | yldX _ m hm hg b =>
      rw [hm19] at hm; cases hm
      have:=hE.blk; simp [hg.1] at this
  obtain ⟨mg,hmg⟩:=Option.isSome_iff_exists.1 (show (e.get g).isSome=true by rw [h.sim.dom,hog]; rfl)
  have hk:RowOk w e mg true ty 1 (vals.map AV.val):=h.sim.obj g _ mg hog hmg
  have hg19:g≠19999:=by intro he; subst he; simp [unp] at hu
  have hrx:=h.ev x
  rw [hx] at hrx
  generalize hvx:a.eval x=vx at hrx
  cases hrx with
  | data hd=>cases hd
  | own0=>omega
  | ownX _ _ _ m hm hg =>
    rw [hmg] at hm; cases hm
    exact absurd hg hk.ngone
  | own _ _ _ m b hm hb hc =>
    rw [hmg] at hm; cases hm
    subst hn
    have hkb:=hk.blk
    simp only [hb] at hkb
    obtain ⟨cur,h1,h2,h3⟩:=hkb
    have hms:mg.sz=1:=hk.hsz
    have hnS:¬ m19.has b:=fun hb'=>hg19 (h.sim.inj g 19999 mg m19 b hmg hm19 (.inl hb) hb')
    have hcap:vals.length≤mg.cap:=by have:=hk.len; simpa using this
    obtain ⟨fn,tmps,assign,body,hyr,hround⟩:=hy w m19.has b mg.cap cur hE.holds hE.lt (.inl hE.blk) hnS (fun hF=>(hE.fz b hF).2.2 ⟨g,mg,hmg,.inl hb⟩) h1 (by rw [h2,Nat.mul_one]) hcap hk.cap (fun i v hv=>by
      obtain ⟨u,g1,g2,g3⟩:=h3 i (.val v) (by rw [List.getElem?_map,hv]; rfl) 0 (.val v) rfl
      rw [Nat.mul_one,Nat.add_zero] at g1
      simp only [CellRd,if_true] at g3
      obtain rfl:=g3.val_inv
      exact ⟨g1,g2⟩)
    refine upon_yield ho hfv (by simp only [List.map_toArray,List.map_cons,List.map_nil,hvx]; simpa [hms] using hyr) (hround.mono ?_)
    rintro en w' ⟨t,J',S',rfl,hR,hJF,hJ',hst,hSl,hSlt,hSs,k1,k2,k3,k4,k5⟩
    let m' : Mta:={ m19 with more:=S' }
    have hhas:∀ c,m'.has c↔S' c:=fun c=>⟨fun hc=>by
      rcases hc with hc | hc
      · have:some l=some c:=by rw [← hE.blk]; exact hc
        cases this; exact hSl
      · exact hc,fun hc=>.inr hc⟩
    have hhasF:m'.has=S':=funext fun c=>propext (hhas c)
    let e' : Env:={ e with get:=fun j=>if j=g then none else if j=19999 then some m' else e.get j }
    have hget:∀ j,e'.get j=if j=g then none else if j=19999 then some m' else e.get j:=fun _=>rfl
    have hnotS:∀ j mj c,e.get j=some mj→mj.has c→j≠19999→¬ m19.has c:=fun j mj c hj hc hne hc'=>hne (h.sim.inj j 19999 mj m19 c hj hm19 hc hc')
    have hoth:∀ j mj c,e.get j=some mj→mj.has c→j≠19999→j≠g→w'.heap[c]?=w.heap[c]?:=fun j mj c hj hc hne hng =>
      k5 c (h.sim.blk_lt hj hc) (hnotS j mj c hj hc hne) (fun he=>by subst he; exact hng (h.sim.inj j g mj mg c hj hmg hc (.inl hb)))
    have hfr:Fr w e w' e':=by
      refine ⟨k1,k2,k3,k4,fun c hc hno=>k5 c hc (fun hS=>hno ⟨19999,m19,hm19,hS⟩) (fun he=>by subst he; exact hno ⟨g,mg,hmg,.inl hb⟩),fun c ho hc=>?_,rfl,⟨fun id i1 i2=>?_,fun m hm=>?_⟩⟩
      · obtain ⟨j,mj,hj,hm⟩:=ho
        rw [hget] at hj
        split at hj
        · cases hj
        · split at hj
          · cases hj
            rcases hSs c ((hhas c).1 hm) hc with h5 | h5
            · exact ⟨19999,m19,hm19,h5⟩
            · subst h5; exact ⟨g,mg,hmg,.inl hb⟩
          · exact ⟨j,mj,hj,hm⟩
      · rw [hget,if_neg (by intro he; subst he; simp [unp] at hu; omega),if_neg (by omega)]
      · rw [hm19] at hm; cases hm
        exact ⟨m',by rw [hget,if_neg (Ne.symm hg19),if_pos rfl],rfl,rfl,rfl,rfl⟩
    have hT:Turns w e w' e' (AV.kill g):=by
      intro y v hy
      unfold AV.kill
      cases hmen:y.men g with
      | true=>exact .dead v
      | false =>
        refine hy.embed (fun j mj hj hmj=>?_) hfr.q
        rw [hget,if_neg (by intro he; subst he; rw [hmen] at hj; cases hj)]
        by_cases h5:j=19999
        · rw [if_pos h5]; subst h5; rw [hm19] at hmj; cases hmj; exact ⟨m',rfl,rfl,rfl,rfl,rfl⟩
        · rw [if_neg h5]; exact ⟨mj,hmj,mj.same_refl⟩
    have hlk:∀ j,look j (st.yielded g l J').objs=if 19999=j then some (.ext l J') else if g=j then none else (look j st.objs).map (Obj.map (AV.kill g)):=fun j=>by
      show look j (upd 19999 (.ext l J') (del g (mapV (Obj.map (AV.kill g)) st.objs)))=_
      rw [look_upd,look_del,look_mapV]
    refine hnext (.val (.bool t)) (st.yielded g l J') (.bool t) w' e' (hK t J' hR) ⟨⟨fun j=>?_,fun i j mi mj c hi hj hc hc'=>?_,fun j o' mj ho' hmj=>?_,fun c hc=>?_,fun c hc=>h.sim.new c (Nat.le_trans k4 hc)⟩,h.defers.fr hfr,h.size,fun s y hy=>?_⟩ hfr (.data (.val _))
    · rw [hlk,hget]
      by_cases h5:19999=j
      · subst h5; rw [if_neg (Ne.symm hg19)]; simp
      · rw [if_neg h5,if_neg (Ne.symm h5)]
        by_cases h6:g=j
        · subst h6; simp
        · rw [if_neg h6,if_neg (Ne.symm h6),Option.isSome_map]; exact h.sim.dom j
    · rw [hget] at hi hj
      split at hi
      · cases hi
      split at hj
      · cases hj
      rename_i hig hjg
      split at hi <;> split at hj
      · rename_i h5 h6; rw [h5,h6]
      · rename_i h5 h6
        cases hi
        rcases hSs c ((hhas c).1 hc) (h.sim.blk_lt hj hc') with h7 | h7
        · exact absurd h7 (hnotS j mj c hj hc' h6)
        · subst h7; exact absurd (h.sim.inj j g mj mg c hj hmg hc' (.inl hb)) hjg
      · rename_i h5 h6
        cases hj
        rcases hSs c ((hhas c).1 hc') (h.sim.blk_lt hi hc) with h7 | h7
        · exact absurd h7 (hnotS i mi c hi hc h5)
        · subst h7; exact absurd (h.sim.inj i g mi mg c hi hmg hc (.inl hb)) hig
      · exact h.sim.inj i j mi mj c hi hj hc hc'
    · rw [hlk] at ho'
      rw [hget] at hmj
      by_cases h5:19999=j
      · subst h5
        rw [if_pos rfl] at ho'; rw [if_neg (Ne.symm hg19),if_pos rfl] at hmj
        cases ho'; cases hmj
        exact ⟨hE.blk,fun c hc=>hSlt c ((hhas c).1 hc),by rw [hhasF]; exact hJ',fun c hF=>by rw [hJF] at hF; obtain ⟨k8,k9⟩:=hE.fz c hF; exact ⟨k8.of_same (hfr.q c k9 k8.lt).1,(hfr.q c k9 k8.lt).2⟩,hst⟩
      · rw [if_neg h5] at ho'
        by_cases h6:g=j
        · rw [if_pos h6] at ho'; cases ho'
        · rw [if_neg h6] at ho'
          rw [if_neg (Ne.symm h6),if_neg (Ne.symm h5)] at hmj
          obtain ⟨o0,ho0,rfl⟩:=Option.map_eq_some_iff.1 ho'
          exact hT.obj (AV.kill_cells g) hfr.q (h.sim.obj j o0 mj ho0 hmj) k4 ⟨k1,k2,k3⟩ (fun c hc=>hoth j mj c hmj hc (Ne.symm h5) (Ne.symm h6))
    · obtain ⟨j,mj,hj,hc'⟩:=hc
      rw [hget] at hj
      split at hj
      · cases hj
      · split at hj
        · cases hj
          have hS:=(hhas c).1 hc'
          rcases Nat.lt_or_ge c w.heap.size with h5 | h5
          · rcases hSs c hS h5 with h7 | h7
            · exact h.sim.prok c ⟨19999,m19,hm19,h7⟩
            · subst h7; exact h.sim.prok c ⟨g,mg,hmg,.inl hb⟩
          · exact h.sim.new c h5
        · exact h.sim.prok c ⟨j,mj,hj,hc'⟩
    · have hy' : look s (mapV (AV.mapTop (AV.kill g)) st.tmps)=some y:=hy
      rw [look_mapV] at hy'
      obtain ⟨y0,hy0,rfl⟩:=Option.map_eq_some_iff.1 hy'
      obtain ⟨v,hv,hr⟩:=h.tmp s y0 hy0
      exact ⟨v,hv,hT.top _ _ hr⟩
end
attribute [simp] St.yielded
end Go.Sim
namespace Go.Sim
open Go.RowKit
section
variable {P:Program} {Γ:TypeId→Option TI}
theorem Conc.putLoop {st:St} {a:Act} {w:World} {e:Env} (h:Conc st a w e) {l:Nat} {r:Loop} (hl:w.heap[l]?=some (.loop r)) (hno:¬ e.owned l) (r' : Loop) :
    Conc st a (w.putObj l (.loop r')) e∧∀ x v,Rd w e x v→Rd (w.putObj l (.loop r')) e x v:=by
  have hother:∀ b,b≠l→(w.putObj l (.loop r')).heap[b]?=w.heap[b]?:=fun b hb=>World.putObj_heap_other hb
  have hcell:∀ b,CellIn w b→(w.putObj l (.loop r')).heap[b]?=w.heap[b]?:=fun b ⟨o,v,hv⟩=>hother b (fun he=>by
    subst he
    simp [World.cell?,hl] at hv)
  have hr:∀ x v,Rd w e x v→Rd (w.putObj l (.loop r')) e x v:=fun x v hx=>hx.evolve' (fun b hq hb=>⟨hcell b hb,hq⟩) (fun _ _=>rfl)
  refine ⟨⟨⟨h.sim.dom,h.sim.inj,fun id o m ho hg=>(h.sim.obj id o m ho hg).quiet hcell (fun b hb=>hother b (fun he=>hno (by subst he; exact ⟨id,m,hg,hb⟩))) (by simp) ⟨rfl,rfl,rfl⟩,h.sim.prok,fun b hb=>h.sim.new b (by simpa using hb)⟩,
    ⟨⟨h.defers.1.1,by simpa using h.defers.1.2⟩,fun d hd=>?_⟩,h.size,fun t x hx=>?_⟩,hr⟩
  · obtain ⟨D,h1,h2,h3,h4⟩:=h.defers.2 d hd
    exact ⟨D,h1,by rw [hother D (by intro he; subst he; rw [hl] at h2; cases h2)]; exact h2,h3,h4⟩
  · obtain ⟨v,hv,hx'⟩:=h.tmp t x hx
    exact ⟨v,hv,hr x v hx'⟩
structure RF (nt:Nat) (tm:List (Nat×AV)) (qs:List (Nat×Nat)) (tmps:Array Value) (w1:World) (e1:Env) (O F:Nat→Prop) (l D:Nat) (rec:Loop) (objs:List (Nat×Obj)) (w:World) (S:Nat→Prop) (e:Env):Prop where
  conc:Conc ⟨nt,tm,objs⟩ { tmps:=tmps,defers:=[] } w e
  os:w.os=w1.os
  tape:w.tape=w1.tape
  output:w.output=w1.output
  size:w1.heap.size≤w.heap.size
  blk:∀ b,b < w1.heap.size→¬ e1.owned b→w.heap[b]?=w1.heap[b]?
  own:∀ b,e.owned b→b < w1.heap.size→e1.owned b
  cov:∀ b,b < w1.heap.size→¬ O b→S b∨F b
  hO:∀ b,O b→e1.owned b
  hF:∀ b,F b→b < w1.heap.size∧¬ e1.owned b
  prS:∀ b,b < w.heap.size→e.pr b→S b∨F b
  pr1:∀ b,e.pr b→e1.pr b
  hrec:w.heap[l]?=some (.loop rec)
  dfr:w.heap[D]?=some (.deferred (some []))
  Sl:S l
  SD:S D
  nl:¬ e.owned l
  nD:¬ e.owned D
  hl:w1.heap.size≤l
  hD:w1.heap.size≤D
  pin:∀ n,10000≤n→n < 15000→e.get n=(look n qs).bind e1.get
theorem RF.stab {nt:Nat} {tm:List (Nat×AV)} {qs:List (Nat×Nat)} {tmps:Array Value} {w1:World} {e1:Env} {O F:Nat→Prop} {l D:Nat} {rec:Loop} {objs:List (Nat×Obj)} (hnew:∀ b,w1.heap.size≤b→e1.pr b):Stab ⟨F,fun w S=>∃ e,RF nt tm qs tmps w1 e1 O F l D rec objs w S e⟩:=by
  rintro w w' S ⟨e,h⟩ hS hos hta hou hsz
  let e' : Env:={ e with pr:=fun b=>(e.pr b∧b < w.heap.size)∨w'.heap.size≤b }
  have hlt:∀ b,e.owned b→b < w.heap.size:=fun b ⟨id,m,hm,hb⟩=>h.conc.sim.blk_lt hm hb
  have hkeep:∀ b,b < w.heap.size→e.pr b→w'.heap[b]?=w.heap[b]?:=fun b hb hp=>hS b (h.prS b hb hp) hb
  have hq:∀ b,e.q b→b < w.heap.size→w'.heap[b]?=w.heap[b]?∧e'.q b:=fun b hb hb'=>⟨hkeep b hb' hb.1,.inl ⟨hb.1,hb'⟩,hb.2⟩
  have hin:∀ b,S b→b < w.heap.size→w'.heap[b]?=w.heap[b]?:=fun b h=>hS b (.inl h)
  have hllt:l < w.heap.size:=(Array.getElem?_eq_some_iff.1 h.hrec).1
  have hDlt:D < w.heap.size:=(Array.getElem?_eq_some_iff.1 h.dfr).1
  refine ⟨e',⟨⟨h.conc.sim.dom,h.conc.sim.inj,fun id o m ho hm=>?_,fun b hb=>.inl ⟨h.conc.sim.prok b hb,hlt b hb⟩,fun b hb=>.inr hb⟩,Marks.nil (Nat.le_trans h.conc.defers.1.2 hsz),h.conc.size,fun t x hx=>?_⟩,
    hos.trans h.os,hta.trans h.tape,hou.trans h.output,Nat.le_trans h.size hsz,fun b hb hn=>(hS b (h.cov b hb fun ho=>hn (h.hO b ho)) (Nat.lt_of_lt_of_le hb h.size)).trans (h.blk b hb hn),h.own,h.cov,h.hO,h.hF,fun b hb hp=>?_,fun b hp=>?_,
    by rw [hin l h.Sl hllt]; exact h.hrec,by rw [hin D h.SD hDlt]; exact h.dfr,h.Sl,h.SD,h.nl,h.nD,h.hl,h.hD,h.pin⟩
  · have:=(h.conc.sim.obj id o m ho hm).ren (w':=w') (e':=e') (fun i=>i) (fun id m _ hg=>⟨m,hg,m.same_refl⟩) (.inl hq) hsz ⟨hos,hta,hou⟩ (fun b hb=>hkeep b (h.conc.sim.blk_lt hm hb) (h.conc.sim.prok b ⟨id,m,hm,hb⟩))
    rwa [men_ren_id] at this
  · obtain ⟨v,hv,hr⟩:=h.conc.tmp t x hx
    exact ⟨v,hv,hr.embed (fun id m _ hg=>⟨m,hg,m.same_refl⟩) hq⟩
  · rcases hp with ⟨hp,hb'⟩ | hp
    · exact h.prS b hb' hp
    · omega
  · rcases hp with ⟨hp,_⟩ | hp
    · exact h.pr1 b hp
    · exact hnew b (Nat.le_trans (Nat.le_trans h.size hsz) hp)
def RoundQ (nt:Nat) (objsR:List (Nat×Obj)) (z:Option (List (Nat×Obj))):Exit→St→Prop
  | .normal,s=>z=none∧Le s ⟨nt,[],objsR⟩
  | .ret,s=>∃ oX,z=some oX∧Le s ⟨nt,[],oX⟩
  | _,_=>False
theorem RF.yield {nt : Nat} {tm : List (Nat × AV)} {qs : List (Nat × Nat)} {tmps : Array Value} {w1 : World} {e1 : Env} {O F : Nat → Prop} {l D : Nat} {fn : FuncId} {p : Nat} {assign body : Code} {objsR : List (Nat × Obj)} {z : Option (List (Nat × Obj))} {ty : TypeId} {vals : List Value}
    (hnew1:∀ b,w1.heap.size≤b→e1.pr b) (hown1:∀ b,e1.owned b→e1.pr b) (hp:p < nt) (h20:look 20000 objsR=none) (hmen:∀ t x,look t tm=some x→∀ j,x.men j=true→10000≤j∧j < 15000)
    {rec0:LoopState→Option Code→Loop} (hrec0:rec0=fun s pe=>{ state:=s,pending:=pe,fn,tmps,params:=#[p],assign,body,defers:=D })
    (hround:W (M:=anyMode) P assign ⟨nt,(p,.own 20000 0 vals.length) :: del p tm,(20000,.row true ty 1 (vals.map AV.val)) :: objsR⟩ (fun x s=>x = .normal∧W (M:=anyMode) P body s (RoundQ nt objsR z))) :
    YieldOk P l ⟨F,fun w S=>∃ e,RF nt tm qs tmps w1 e1 O F l D (rec0 .ready none) objsR w S e⟩ ty vals
      (fun t J'=>(z=none∧t=true∧J'=⟨F,fun w S=>∃ e,RF nt tm qs tmps w1 e1 O F l D (rec0 .ready none) objsR w S e⟩) ∨
        ∃ oX,z=some oX∧t=false∧J'=⟨F,fun w S=>∃ e,RF nt tm qs tmps w1 e1 O F l D (rec0 .done (some .ret)) oX w S e⟩):=by
  rintro w S g cap cur ⟨e,h⟩ hSlt hSl hSg hFg hg hcs hlen hcap hcon
  have hglt:g < w.heap.size:=(Array.getElem?_eq_some_iff.1 hg).1
  have hllt:l < w.heap.size:=(Array.getElem?_eq_some_iff.1 h.hrec).1
  have hDlt:D < w.heap.size:=(Array.getElem?_eq_some_iff.1 h.dfr).1
  have hgpr:¬ e.pr g:=fun hp=>(h.prS g hglt hp).elim hSg hFg
  have hlg:l≠g:=fun he=>hSg (he ▸ hSl)
  have hDg:D≠g:=fun he=>hSg (he ▸ h.SD)
  have hg1:g < w1.heap.size→e1.owned g:=fun h1=>Classical.byContradiction fun hn=>(h.cov g h1 fun ho=>hn (h.hO g ho)).elim hSg hFg
  refine ⟨fn,tmps.setIfInBounds p (.slice (some ⟨g,0,none⟩) vals.length cap),assign,body, ?_, ?_⟩
  · have:=run_yield (P:=P) (args:=#[.slice (some ⟨g,0,none⟩) vals.length cap]) h.hrec (by rw [hrec0]; rfl)
    rw [this,hrec0]
    simp
  let mg:Mta:=mt (some g) cap 1
  let er:Env:={ e with get:=fun j=>if j=20000 then some mg else e.get j,pr:=fun b=>e.pr b∨b=g }
  have hget:∀ j,er.get j=if j=20000 then some mg else e.get j:=fun _=>rfl
  have he20:e.get 20000=none:=by
    have:=h.conc.sim.dom 20000
    rw [show look 20000 (⟨nt,tm,objsR⟩:St).objs=none from h20] at this
    cases hm:e.get 20000 with
    | none=>rfl
    | some m=>rw [hm] at this; simp at this
  have hmgh:∀ b,mg.has b→b=g:=fun b hb=>by have:=Mta.has_mk.1 hb; cases this; rfl
  have hnog:∀ j mj,e.get j=some mj→¬ mj.has g:=fun j mj hj hb=>hgpr (h.conc.sim.prok g ⟨j,mj,hj,hb⟩)
  have hero:∀ b,er.owned b→e.owned b∨b=g:=by
    rintro b ⟨j,mj,hj,hb⟩
    rw [hget] at hj
    split at hj
    · cases hj; exact .inr (hmgh b hb)
    · exact .inl ⟨j,mj,hj,hb⟩
  have hqr:∀ b,e.q b→er.q b:=fun b hb=>⟨.inl hb.1,fun ho=>by
    rcases hero b ho with h1 | h1
    · exact hb.2 h1
    · exact hgpr (h1 ▸ hb.1)⟩
  have hemb:∀ id m,e.get id=some m→er.get id=some m:=fun id m hm=>by
    rw [hget,if_neg]
    · exact hm
    · intro he; subst he; rw [he20] at hm; cases hm
  have hcr:Conc ⟨nt,(p,.own 20000 0 vals.length) :: del p tm,(20000,.row true ty 1 (vals.map AV.val)) :: objsR⟩ { tmps:=tmps.setIfInBounds p (.slice (some ⟨g,0,none⟩) vals.length cap),defers:=[] } w er:=by
    refine ⟨⟨fun j=>?_,fun i j mi mj b hi hj hb hb'=>?_,fun j o m ho hm=>?_,fun b hb=>?_,fun b hb=>.inl (h.conc.sim.new b hb)⟩,Marks.nil h.conc.defers.1.2,by simpa using h.conc.size,fun t x hx=>?_⟩
    · simp only [hget,look]
      by_cases h1:20000=j
      · subst h1; simp
      · rw [if_neg (Ne.symm h1),if_neg h1]; exact h.conc.sim.dom j
    · rw [hget] at hi hj
      split at hi <;> split at hj
      · rename_i h1 h2; rw [h1,h2]
      · cases hi; obtain rfl:=hmgh b hb; exact absurd hb' (hnog j mj hj)
      · cases hj; obtain rfl:=hmgh b hb'; exact absurd hb (hnog i mi hi)
      · exact h.conc.sim.inj i j mi mj b hi hj hb hb'
    · simp only [look] at ho
      rw [hget] at hm
      by_cases h1:20000=j
      · rw [if_pos h1] at ho; rw [if_pos h1.symm] at hm
        cases ho; cases hm
        refine ⟨rfl,by simpa using hlen,hcap,fun x hx=>?_,fun _ h=>h,cur,hg,by rw [hcs]; show cap=cap * 1; omega,fun i x hx j y hy=>?_⟩
        · obtain ⟨v,_,rfl⟩:=List.mem_map.1 hx; rfl
        · rw [List.getElem?_map] at hx
          obtain ⟨v,hv,rfl⟩:=Option.map_eq_some_iff.1 hx
          obtain ⟨g1,g2⟩:=hcon i v hv
          have hj0:j=0:=by
            have:=(List.getElem?_eq_some_iff.1 hy).1
            simp [AV.cells] at this; exact this
          subst hj0
          have hyv:y = .val v:=by simpa [AV.cells] using hy.symm
          subst hyv
          exact ⟨v,by simpa using g1,g2,by simp only [CellRd,if_true]; exact .val v⟩
      · rw [if_neg h1] at ho; rw [if_neg (Ne.symm h1)] at hm
        have:=(h.conc.sim.obj j o m ho hm).ren (w':=w) (e':=er) (fun i=>i) (fun id m _ hg=>⟨m,hemb id m hg,m.same_refl⟩) (.inl fun b hb _=>⟨rfl,hqr b hb⟩) (Nat.le_refl _) ⟨rfl,rfl,rfl⟩ (fun _ _=>rfl)
        rwa [men_ren_id] at this
    · rcases hero b hb with h1 | h1
      · exact .inl (h.conc.sim.prok b h1)
      · exact .inr h1
    · have hsz:tmps.size=nt:=h.conc.size
      simp only [look] at hx
      by_cases h1:p=t
      · rw [if_pos h1] at hx
        cases hx
        subst h1
        refine ⟨.slice (some ⟨g,0,none⟩) vals.length cap,by simp [Array.getElem?_setIfInBounds,hsz,hp], ?_⟩
        have:=Rd.own (w:=w) (e:=er) 20000 0 vals.length mg g (by simp [hget]) rfl (by simpa [mg] using hlen)
        simpa [mg] using this
      · rw [if_neg h1,look_del,if_neg h1] at hx
        obtain ⟨v,hv,hr⟩:=h.conc.tmp t x hx
        exact ⟨v,by show (tmps.setIfInBounds p _)[t]?=some v; rw [Array.getElem?_setIfInBounds,if_neg h1]; exact hv,hr.embed (fun id m _ hg=>⟨m,hemb id m hg,m.same_refl⟩) (fun b hb _=>⟨rfl,hqr b hb⟩)⟩
  have hnl:¬ er.owned l:=fun ho=>by
    rcases hero l ho with h1 | h1
    · exact h.nl h1
    · exact hlg h1
  have hnD:¬ er.owned D:=fun ho=>by
    rcases hero D ho with h1 | h1
    · exact h.nD h1
    · exact hDg h1
  refine roundIn_of_wpIn (F:=Fence.wide) trivial ?_
  have hA:=hround (some l) _ w er hcr
  refine wpIn_mono hA ?_
  rintro x a' w' ⟨s,e',c1,f1,rfl,hW⟩
  have hrec1:w'.heap[l]?=some (.loop (rec0 .ready none)):=by rw [f1.blk l hllt hnl]; exact h.hrec
  have hnl1:¬ e'.owned l:=fun ho=>hnl (f1.own l ho hllt)
  have hnD1:¬ e'.owned D:=fun ho=>hnD (f1.own D ho hDlt)
  have hlw' : l < w'.heap.size:=(Array.getElem?_eq_some_iff.1 hrec1).1
  obtain ⟨c2,t2⟩:=c1.putLoop hrec1 hnl1 { rec0 .ready none with state:=.busy }
  refine ⟨_,run_beginRound hrec1 (by rw [hrec0]), ?_⟩
  generalize hw2:w'.putObj l (.loop { rec0 .ready none with state:=.busy })=w2 at c2 t2
  have hw2l:w2.heap[l]?=some (.loop { rec0 .ready none with state:=.busy }):=by rw [← hw2]; exact World.putObj_heap_same hlw'
  have hw2o:∀ b,b≠l→w2.heap[b]?=w'.heap[b]?:=fun b hb=>by rw [← hw2]; exact World.putObj_heap_other hb
  have hw2s:w2.heap.size=w'.heap.size:=by rw [← hw2]; simp
  have hw2w:w2.os=w'.os∧w2.tape=w'.tape∧w2.output=w'.output:=by rw [← hw2]; exact ⟨rfl,rfl,rfl⟩
  refine wpIn_mono (hW (some l) a' w2 e' c2) ?_
  have fin:∀ (s3:St) (a3:Act) (w3:World) (e3:Env) (objs' : List (Nat×Obj)) (jump:Option Code),Conc s3 a3 w3 e3→Fr w2 e' w3 e3→Le s3 ⟨nt,[],objs'⟩ →
      (Instr.endRound l jump).run P w3 = .ok (.bool jump.isNone) (w3.putObj l (.loop (rec0 (if jump.isNone then .ready else .done) jump))) ∧
      ∃ S', (∃ e4, RF nt tm qs tmps w1 e1 O F l D (rec0 (if jump.isNone then .ready else .done) jump) objs' (w3.putObj l (.loop (rec0 (if jump.isNone then .ready else .done) jump))) S' e4) ∧ S' l ∧
        (∀ b,S' b→b < (w3.putObj l (.loop (rec0 (if jump.isNone then .ready else .done) jump))).heap.size)∧(∀ b,S' b→b < w.heap.size→S b∨b=g)∧(w3.os=w.os∧w3.tape=w.tape∧w3.output=w.output)∧w.heap.size≤w3.heap.size ∧
        ∀ b,b < w.heap.size→¬ S b→b≠g→w3.heap[b]?=w.heap[b]?:=by
    intro s3 a3 w3 e3 objs' jump c3 f3 hle
    obtain ⟨e4,c4,f4⟩:=hle a3 w3 e3 c3
    have hl3:w3.heap[l]?=some (.loop { rec0 .ready none with state:=.busy }):=by rw [f3.blk l (by rw [hw2s]; exact hlw') hnl1]; exact hw2l
    have hnl3:¬ e4.owned l:=fun ho=>hnl1 (f3.own l (f4.own l ho (Array.getElem?_eq_some_iff.1 hl3).1) (by rw [hw2s]; exact hlw'))
    have hD' : D < w'.heap.size:=Nat.lt_of_lt_of_le hDlt f1.size
    have hlD:D≠l:=fun he=>by have h1:=h.dfr; rw [he,h.hrec] at h1; cases h1
    have hD3:w3.heap[D]?=some (.deferred (some [])):=by
      rw [f3.blk D (by rw [hw2s]; exact hD') hnD1,hw2o D hlD,f1.blk D hDlt hnD]; exact h.dfr
    have hnD3:¬ e4.owned D:=fun ho=>hnD1 (f3.own D (f4.own D ho (Array.getElem?_eq_some_iff.1 hD3).1) (by rw [hw2s]; exact hD'))
    have hend:=run_endRound (P:=P) jump hl3
    have hreq:({ { rec0 .ready none with state:=.busy } with state:=if jump.isNone then .ready else .done,pending:=jump }:Loop)=rec0 (if jump.isNone then .ready else .done) jump:=by rw [hrec0]
    rw [hreq] at hend
    have hsz3:w.heap.size≤w3.heap.size:=Nat.le_trans f1.size (by rw [← hw2s]; exact f3.size)
    have hw:w3.os=w.os∧w3.tape=w.tape∧w3.output=w.output:=⟨f3.os.trans (hw2w.1.trans f1.os),f3.tape.trans (hw2w.2.1.trans f1.tape),f3.output.trans (hw2w.2.2.trans f1.output)⟩
    have hkeep:∀ b,b < w.heap.size→b≠l→¬ er.owned b→w3.heap[b]?=w.heap[b]?:=fun b hb hbl hno=>by
      have hb' : b < w'.heap.size:=Nat.lt_of_lt_of_le hb f1.size
      rw [f3.blk b (by rw [hw2s]; exact hb') (fun ho=>hno (f1.own b ho hb)),hw2o b hbl,f1.blk b hb hno]
    have hown4:∀ b,e4.owned b→b < w.heap.size→er.owned b:=fun b ho hb =>
      f1.own b (f3.own b (f4.own b ho (Nat.lt_of_lt_of_le hb hsz3)) (by rw [hw2s]; exact Nat.lt_of_lt_of_le hb f1.size)) hb
    have hpr4:e4.pr=er.pr:=f4.pr.trans (f3.pr.trans f1.pr)
    obtain ⟨c5,t5⟩:=c4.putLoop hl3 hnl3 (rec0 (if jump.isNone then .ready else .done) jump)
    refine ⟨hend,fun b=>b < w3.heap.size∧(S b∨b=g∨w.heap.size≤b),⟨e4,⟨⟨c5.sim,c5.defers.1 |> fun h=>Marks.nil h.2,h.conc.size,fun t x hx=>?_⟩,hw.1.trans h.os,hw.2.1.trans h.tape,hw.2.2.trans h.output,by simpa using Nat.le_trans h.size hsz3,fun b hb hn=>?_,fun b ho hb=>?_,fun b hb hn=>?_,h.hO,h.hF,fun b hb hp=>?_,fun b hp=>?_, ?_, ?_, ?_, ?_,hnl3,hnD3,h.hl,h.hD,fun n n1 n2=>?_⟩⟩, ?_,fun b hb=>by simpa using hb.1,fun b hb hlt=>?_,hw,hsz3,fun b hb hS hbg=>hkeep b hb (fun he=>hS (he ▸ hSl)) (fun ho=>?_)⟩
    · obtain ⟨v,hv,hr⟩:=h.conc.tmp t x hx
      have hpin:∀ {wa:World} {ea:Env} {wb:World} {eb:Env},Fr wa ea wb eb→∀ j,x.men j=true→eb.get j=ea.get j:=fun hf j hj=>hf.pin j (hmen t x hx j hj).1 (hmen t x hx j hj).2
      have r1:Rd w er x v:=hr.embed (fun id m _ hg=>⟨m,hemb id m hg,m.same_refl⟩) (fun b hb _=>⟨rfl,hqr b hb⟩)
      exact ⟨v,hv,t5 _ _ (((t2 _ _ (r1.fr f1 (hpin f1))).fr f3 (hpin f3)).fr f4 (hpin f4))⟩
    · have hS:=h.cov b hb fun ho=>hn (h.hO b ho)
      have hbw:b < w.heap.size:=Nat.lt_of_lt_of_le hb h.size
      rw [World.putObj_heap_other (by have:=h.hl; omega),hkeep b hbw (by have:=h.hl; omega) (fun ho=>?_)]
      · exact h.blk b hb hn
      · rcases hero b ho with h1 | h1
        · exact hn (h.own b h1 hb)
        · exact hS.elim (fun hS=>hSg (h1 ▸ hS)) fun hS=>hFg (h1 ▸ hS)
    · rcases hero b (hown4 b ho (Nat.lt_of_lt_of_le hb h.size)) with h1 | h1
      · exact h.own b h1 hb
      · subst h1; exact hg1 hb
    · exact (h.cov b hb hn).imp (fun hS=>⟨Nat.lt_of_lt_of_le (Nat.lt_of_lt_of_le hb h.size) hsz3,.inl hS⟩) id
    · rw [hpr4] at hp
      have hb' : b < w3.heap.size:=by simpa using hb
      rcases hp with hp | hp
      · rcases Nat.lt_or_ge b w.heap.size with h1 | h1
        · exact (h.prS b h1 hp).imp (fun hS=>⟨hb',.inl hS⟩) id
        · exact .inl ⟨hb',.inr (.inr h1)⟩
      · exact .inl ⟨hb',.inr (.inl hp)⟩
    · rw [hpr4] at hp
      rcases hp with hp | hp
      · exact h.pr1 b hp
      · subst hp
        rcases Nat.lt_or_ge b w1.heap.size with h1 | h1
        · exact hown1 b (hg1 h1)
        · exact hnew1 b h1
    · exact World.putObj_heap_same (Array.getElem?_eq_some_iff.1 hl3).1
    · rw [World.putObj_heap_other hlD]; exact hD3
    · exact ⟨(Array.getElem?_eq_some_iff.1 hl3).1,.inl hSl⟩
    · exact ⟨(Array.getElem?_eq_some_iff.1 hD3).1,.inl h.SD⟩
    · have q1:er.get n=e.get n:=by rw [hget,if_neg (by omega)]
      rw [f4.pin n n1 n2,f3.pin n n1 n2,f1.pin n n1 n2,q1]; exact h.pin n n1 n2
    · exact ⟨(Array.getElem?_eq_some_iff.1 hl3).1,.inl hSl⟩
    · rcases hb.2 with h1 | h1 | h1
      · exact .inl h1
      · exact .inr h1
      · omega
    · rcases hero b ho with h1 | h1
      · exact (h.prS b hb (h.conc.sim.prok b h1)).elim hS fun hf=>(h.hF b hf).2 (h.own b h1 (h.hF b hf).1)
      · exact hbg h1
  rintro x3 a3 w3 ⟨s3,e3,c3,f3,hq⟩
  cases x3 with
  | normal =>
    obtain ⟨hz,hle⟩:=hq
    obtain ⟨q1,S',q2,q3,q4,q5,q6,q7,q8⟩:=fin s3 a3 w3 e3 objsR none c3 f3 hle
    refine ⟨_,_,q1,true,_,S',rfl,.inl ⟨hz,rfl,rfl⟩,rfl,q2,RF.stab hnew1,q3,q4,q5,q6.1,q6.2.1,q6.2.2,by simpa using q7,fun b hb hS hbg=>?_⟩
    rw [World.putObj_heap_other (show b≠l from fun he=>hS (by subst he; exact hSl))]; exact q8 b hb hS hbg
  | ret =>
    obtain ⟨oX,hz,hle⟩:=hq
    obtain ⟨q1,S',q2,q3,q4,q5,q6,q7,q8⟩:=fin s3 a3 w3 e3 oX (some .ret) c3 f3 hle
    refine ⟨_,_,q1,false,_,S',rfl,.inr ⟨oX,hz,rfl,rfl⟩,rfl,q2,RF.stab hnew1,q3,q4,q5,q6.1,q6.2.1,q6.2.2,by simpa using q7,fun b hb hS hbg=>?_⟩
    rw [World.putObj_heap_other (show b≠l from fun he=>hS (by subst he; exact hSl))]; exact q8 b hb hS hbg
  | exit id=>exact hq.elim
  | goto t=>exact hq.elim
  | panic c=>exact hq.elim
  | outgrown=>exact hq.elim
/-! ### the statement -/
theorem look_head {α:Type} {t:Nat} {x:α} {r:List (Nat×α)}:look t ((t,x) :: r)=some x:=by simp [look]
def capR (ps : List (Nat × Nat)) : List AV → Option (List AV)
  | []=>some []
  | .ptr id i o :: r=>match findOld id ps,capR ps r with
    | some n,some ys=>some (.ptr n i o :: ys)
    | _,_=>none
  | _=>none
def St.tmpsFor (st : St) (qs : List (Nat × Nat)) : List Nat → Option (List (Nat × AV))
  | []=>some []
  | t :: r=>match look t st.tmps,St.tmpsFor st qs r with
    | some x,some tm=>if x.named (qs.map (·.2)) then some ((t,x.ren (expName qs)) :: tm) else none
    | _,_=>none
def Obj.plain:Obj→Bool
  | .row _ _ _ els=>AV.isDataL els
  | _=>false
def Obj.notExt:Obj→Bool
  | .ext _ _=>false
  | .cus _=>false
  | _=>true
theorem isData_cells {x:AV} (h:x.isData=true):∀ y∈x.cells,y.isData=true:=by
  intro y hy
  cases x <;> simp only [AV.cells,List.mem_singleton] at hy <;> first
    | (subst hy; exact h)
    | exact AV.isDataL_mem (by simpa [AV.isData] using h) hy
theorem ObjOk.moveP {w w' : World} {e e' : Env} {m:Mta} {o:Obj} (h:ObjOk w e m o) (hp:o.plain=true) (hb:∀ b,m.has b→w'.heap[b]?=w.heap[b]?) (hq:∀ b,e.q b→CellIn w b→w'.heap[b]?=w.heap[b]?∧e'.q b):ObjOk w' e' m o:=by
  unfold Obj.plain at hp
  split at hp
  · rename_i d ty sz els
    refine ⟨h.hsz,h.len,h.cap,h.cells,h.only, ?_⟩
    have hk:=h.blk
    cases hmb:m.blk with
    | none=>simpa [hmb] using hk
    | some b =>
      simp only [hmb] at hk ⊢
      obtain ⟨cur,h1,h2,h3⟩:=hk
      refine ⟨cur,by rw [hb b (.inl hmb)]; exact h1,h2,fun i x hx j y hy=>?_⟩
      obtain ⟨u,g1,g2,g3⟩:=h3 i x hx j y hy
      refine ⟨u,g1,g2, ?_⟩
      have hd:y.isData=true:=isData_cells (AV.isDataL_mem hp (List.mem_of_getElem? hx)) y (List.mem_of_getElem? hy)
      have g4:RdD w' e'.q y u:=(g3.rd.toData hd).evolve' hq
      cases d with
      | true=>simpa [CellRd] using g4
      | false=>simpa [CellRd] using Rd.data g4
  · cases hp
theorem objsFor_named {st : St} {ps : List (Nat × Nat)} {n id j : Nat} {o : Obj} {os : List (Nat × Obj)} (hos : st.objsFor ps ps = some os) (p1 : look n ps = some id) (p2 : look id st.objs = some o) (hj : o.men j = true) : j ∈ ps.map (·.2) := by
  have hnm:=(objsFor_get hos n).2 id o p1 p2
  cases o with
  | row dd ty sz els =>
    cases dd with
    | true=>simp [Obj.men] at hj
    | false =>
      simp only [Obj.named,List.all_eq_true] at hnm
      simp only [Obj.men] at hj
      have:∀ l:List AV,(∀ x∈l,AV.namedL (ps.map (·.2)) x.cells=true)→AV.menL j l=true→j∈ps.map (·.2):=by
        intro l
        induction l with
        | nil=>intro _ hm; simp [AV.menL] at hm
        | cons x xs ih =>
          intro hall hm
          simp only [AV.menL,Bool.or_eq_true] at hm
          rcases hm with hm | hm
          · have hx:=hall x (by simp)
            have hmx:AV.menL j x.cells=true:=by
              cases x <;> first
                | (simp [AV.men] at hm; done)
                | (simpa [AV.cells,AV.menL,AV.men] using hm)
            exact AV.namedL_men x.cells hx hmx
          · exact ih (fun y hy=>hall y (by simp [hy])) hm
      exact this els hnm hj
  | mp dd sh ents =>
    cases dd with
    | true=>simp [Obj.men] at hj
    | false=>exact mp_named hnm hj
  | ext l J=>simp [Obj.men] at hj
  | gone=>simp [Obj.men] at hj
  | fix ty sz cap els=>simp [Obj.men] at hj
  | grid ty sz oty n rows=>simp [Obj.men] at hj
  | cus C=>simp [Obj.men] at hj
theorem handed_obj {st:St} {w w' : World} {e e' : Env} (h:Sim w e st.objs) {ps:List (Nat×Nat)} (hps:psOkL ps=true) {os:List (Nat×Obj)} (hos:st.objsFor ps ps=some os) (hget:∀ n id,look n ps=some id→e'.get n=e.get id)
    (hq:∀ b,e.q b→b < w.heap.size→w'.heap[b]?=w.heap[b]?∧e'.q b) (hsz:w.heap.size≤w'.heap.size) (hw:w'.os=w.os∧w'.tape=w.tape∧w'.output=w.output) (hb:∀ b,e.owned b→w'.heap[b]?=w.heap[b]?) :
    ∀ n o m,look n os=some o→e'.get n=some m→ObjOk w' e' m o:=by
  intro n o m ho hm
  rw [(objsFor_get hos n).1] at ho
  obtain ⟨o0,ho0,rfl⟩:=Option.map_eq_some_iff.1 ho
  simp only [Option.bind_eq_some_iff] at ho0
  obtain ⟨id,p1,p2⟩:=ho0
  have hm' : e.get id=some m:=by rw [← hget n id p1]; exact hm
  refine (h.obj id o0 m p2 hm').ren _ (fun j mj hj hg=>?_) (.inl hq) hsz hw (fun b hb'=>hb b ⟨id,m,hm',hb'⟩)
  obtain ⟨n',h1⟩:=findOld_mem (objsFor_named hos p1 p2 hj)
  exact ⟨mj,by rw [show expName ps j=n' from by simp [expName,h1],hget n' j (findOld_look (psOkL_1 hps) h1)]; exact hg,mj.same_refl⟩
theorem tmpsFor_get {st : St} {qs : List (Nat × Nat)} : ∀ {L : List Nat} {tm : List (Nat × AV)}, st.tmpsFor qs L = some tm → ∀ t x, look t tm = some x → ∃ y, look t st.tmps = some y ∧ y.named (qs.map (·.2)) = true ∧ x = y.ren (expName qs)
  | [],tm,h,t,x,hx=>by cases h; cases hx
  | k :: r, tm, h, t, x, hx => by
    simp only [St.tmpsFor] at h
    split at h
    · rename_i y tm' h1 h2
      split at h
      · rename_i hn
        cases h
        simp only [look] at hx
        split at hx
        · rename_i hk; subst hk; cases hx; exact ⟨y,h1,hn,rfl⟩
        · exact tmpsFor_get h2 t x hx
      · cases h
    · cases h
mutual
theorem AV.men_ren {ρ:Nat→Nat} {j:Nat}:∀ (x:AV),(x.ren ρ).men j=true→∃ i,x.men i=true∧ρ i=j
  | .own i _ _,h=>⟨i,by simp [AV.men],by simpa [AV.ren,AV.men] using h⟩
  | .ptr i _ _,h=>⟨i,by simp [AV.men],by simpa [AV.ren,AV.men] using h⟩
  | .map i,h=>⟨i,by simp [AV.men],by simpa [AV.ren,AV.men] using h⟩
  | .yld i,h=>⟨i,by simp [AV.men],by simpa [AV.ren,AV.men] using h⟩
  | .arr i _ _ _ _,h=>⟨i,by simp [AV.men],by simpa [AV.ren,AV.men] using h⟩
  | .sub i _ _,h=>⟨i,by simp [AV.men],by simpa [AV.ren,AV.men] using h⟩
  | .sptr i _ _ _,h=>⟨i,by simp [AV.men],by simpa [AV.ren,AV.men] using h⟩
  | .mth _ xs,h=>by simp only [AV.men]; exact AV.menL_ren xs (by simpa [AV.ren,AV.men] using h)
  | .clo _ xs,h=>by simp only [AV.men]; exact AV.menL_ren xs (by simpa [AV.ren,AV.men] using h)
  | .agg xs,h=>by simp only [AV.men]; exact AV.menL_ren xs (by simpa [AV.ren,AV.men] using h)
  | .tup xs,h=>by simp only [AV.men]; exact AV.menL_ren xs (by simpa [AV.ren,AV.men] using h)
  | .dead,h=>by simp [AV.ren,AV.men] at h
  | .val _,h=>by simp [AV.ren,AV.men] at h
  | .imm _,h=>by simp [AV.ren,AV.men] at h
  | .iptr _,h=>by simp [AV.ren,AV.men] at h
theorem AV.menL_ren {ρ:Nat→Nat} {j:Nat}:∀ (xs:List AV),AV.menL j (AV.renL ρ xs)=true→∃ i,AV.menL i xs=true∧ρ i=j
  | [],h=>by simp [AV.renL,AV.menL] at h
  | x :: xs, h => by
    simp only [AV.renL,AV.menL,Bool.or_eq_true] at h
    rcases h with h | h
    · obtain ⟨i,h1,h2⟩:=AV.men_ren x h
      exact ⟨i,by simp [AV.menL,h1],h2⟩
    · obtain ⟨i,h1,h2⟩:=AV.menL_ren xs h
      exact ⟨i,by simp [AV.menL,h1],h2⟩
end
theorem capR_rd {ps : List (Nat × Nat)} (hps : psOk ps = true) {w w' : World} {e e' : Env} (hget : ∀ n id, look n ps = some id → e'.get n = e.get id) : ∀ {caps ys : List AV}, capR ps caps = some ys → ys.length = caps.length ∧ ∀ (i : Nat) (y : AV) (v : Value), ys[i]? = some y → (∀ x, caps[i]? = some x → Rd w e x v) → Rd w' e' y v
  | [],ys,h=>by cases h; exact ⟨rfl,fun i y v hy=>by simp at hy⟩
  | c :: r, ys, h => by
    cases c with
    | ptr id k o =>
      simp only [capR] at h
      split at h
      · rename_i n ys' h1 h2
        cases h
        obtain ⟨l1,l2⟩:=capR_rd hps (w:=w) (w':=w') hget h2
        refine ⟨by simp [l1],fun i y v hy hx=>?_⟩
        cases i with
        | zero =>
          simp at hy; subst hy
          have hr:=hx _ rfl
          have hg:=hget n id (findOld_look (psOk_1 hps) h1)
          cases hr with
          | data hr=>cases hr
          | ptr _ _ _ m b hm hb=>exact .ptr n k o m b (by rw [hg]; exact hm) hb
          | ptrX _ _ _ m hm hgo a=>exact .ptrX n k o m (by rw [hg]; exact hm) hgo a
        | succ i=>exact l2 i y v (by simpa using hy) (fun x hx'=>hx x (by simpa using hx'))
      · cases h
    | _=>simp [capR] at h
theorem not_owned_deferred {w:World} {e:Env} {objs:List (Nat×Obj)} (h:Sim w e objs) (hn:(objs.all fun x=>x.2.notExt)=true) {D:Nat} (hD:w.heap[D]?=some (.deferred (some []))):¬ e.owned D:=by
  rintro ⟨id,m,hm,hb⟩
  obtain ⟨o,ho⟩:=Option.isSome_iff_exists.1 (show (look id objs).isSome=true by rw [← h.dom,hm]; rfl)
  have hk:=h.obj id o m ho hm
  have hne:=List.all_eq_true.1 hn _ (look_mem ho)
  cases o with
  | row d ty sz els =>
    have hb' : m.blk=some D:=hb.resolve_right (hk.only D)
    have:=hk.blk
    simp only [hb'] at this
    obtain ⟨cur,h1,_⟩:=this
    rw [hD] at h1; cases h1
  | mp d sh ents =>
    have hb' : m.blk=some D:=hb.resolve_right (hk.only D)
    obtain ⟨b',es,clock,h1,h2,_⟩:=hk.blk
    rw [hb'] at h1; cases h1
    rw [hD] at h2; cases h2
  | ext l J=>simp [Obj.notExt] at hne
  | gone => rcases hb with hb | hb
            · rw [hk.1.1] at hb; cases hb
            · exact hk.2 D hb
  | fix ty sz cap els =>
    have hb' : m.blk=some D:=hb.resolve_right (hk.1.only D)
    have:=hk.1.blk
    simp only [hb'] at this
    obtain ⟨cur,h1,_⟩:=this
    rw [hD] at h1; cases h1
  | cus C=>simp [Obj.notExt] at hne
  | grid ty sz oty n rows =>
    have hG:=(ObjOk.live hk).2
    rcases hb with hb | hb
    · have:=hG.blk
      simp only [hb] at this
      obtain ⟨cur,h1,_⟩:=this
      rw [hD] at h1; cases h1
    · obtain ⟨i,hi,rfl⟩:=(hG.more D).1 hb
      obtain ⟨cur,h1,_⟩:=hG.rows i rows[i] (List.getElem?_eq_getElem hi)
      rw [hD] at h1; cases h1
theorem W.rangeFunc {g:Operand} {p:Nat} {assign body:Code} {st:St} {Q:Exit→St→Prop} {f:FuncId} {caps ys:List AV} (hg:st.calleeC g=some (f,caps))
    (ps qs:List (Nat×Nat)) (hpq:psOk (ps ++ qs)=true) (hps:psOk ps=true) (hqs:psOk qs=true) (hall:(st.objs.all fun x=>((ps ++ qs).map (·.2)).contains x.1)=true) (h199:((ps ++ qs).all fun x=>x.1 != 19999)=true)
    (hcap:capR ps caps=some ys) {os objsR:List (Nat×Obj)} (hos:st.objsFor ps ps=some os) (hbox:(os.all fun x=>x.2.plain)=true) (hoR:st.objsFor qs qs=some objsR) (L:List Nat) {tm:List (Nat×AV)} (htm:st.tmpsFor qs L=some tm) (hp:p < st.nt)
    (ty:TypeId) (V:List Value→Prop) (Z:List Value→Option (List (Nat×Obj)))
    (hround:∀ vals,V vals→W (M:=anyMode) P assign ⟨st.nt,(p,.own 20000 0 vals.length) :: del p tm,(20000,.row true ty 1 (vals.map AV.val)) :: objsR⟩ (fun x s=>x = .normal∧W (M:=anyMode) P body s (RoundQ st.nt objsR (Z vals))))
    (res:Option (List Value))
    (hcall:∀ (l:Nat) (J0:Fgn) (JX:List Value→Fgn),(∀ vals,V vals→YieldOk P l J0 ty vals (fun t J'=>(Z vals=none∧t=true∧J'=J0)∨∃ oX,Z vals=some oX∧t=false∧J'=JX vals)) →
      ACalls P f (.yld 19999 :: ys) ((19999,.ext l J0) :: os) (fun _ o=>o=(19999,.ext l (match res with | none=>J0 | some v=>JX v)) :: os))
    (d:Nat) (hd:d < 1250)
    (hN:res=none→(backOk (ps ++ qs) d (os ++ objsR) && (objsR.all fun x=>(look x.1 ps).isNone) && ((st.adopt (ps ++ qs) d (os ++ objsR)).objs.all fun x=>x.2.notExt))=true∧Q .normal (st.adopt (ps ++ qs) d (os ++ objsR)))
    (hX:∀ v,res=some v→∃ oX,Z v=some oX∧(backOk (ps ++ qs) d (os ++ oX) && (oX.all fun x=>(look x.1 ps).isNone) && ((st.adopt (ps ++ qs) d (os ++ oX)).objs.all fun x=>x.2.notExt))=true∧Q .ret (st.adopt (ps ++ qs) d (os ++ oX))) :
    W (M:=outMode) P (.rangeFunc g #[p] assign body) st Q:=by
  intro rd a w e hc
  refine wpIn_rangeFunc ?_
  intro fn _
  obtain ⟨vs,hev,hvs,hvr⟩:=callee_rd hc.view hg
  obtain ⟨rec0,hrec0⟩:∃ rec0:LoopState→Option Code→Loop,rec0=fun s pe=>{ state:=s,pending:=pe,fn,tmps:=a.tmps,params:=#[p],assign,body,defers:=w.heap.size }:=⟨_,rfl⟩
  obtain ⟨w2,hw2⟩:∃ w2,(w.alloc (.deferred (some []))).alloc (.loop (rec0 .ready none))=w2:=⟨_,rfl⟩
  have hL2:w2.heap[w.heap.size + 1]?=some (.loop (rec0 .ready none)):=by
    rw [← hw2]; have:=World.alloc_heap_new (w.alloc (.deferred (some []))) (.loop (rec0 .ready none)); rwa [World.size_alloc] at this
  have hD2:w2.heap[w.heap.size]?=some (.deferred (some [])):=by
    rw [← hw2]; exact (heap_alloc_old _ _ _ (by simp)).trans (World.alloc_heap_new w _)
  have hs2:w2.heap.size=w.heap.size + 2:=by rw [← hw2]; simp
  have ho2:∀ b,b < w.heap.size→w2.heap[b]?=w.heap[b]?:=fun b hb=>by
    rw [← hw2,heap_alloc_old _ _ _ (by simp; omega),heap_alloc_old _ _ _ hb]
  have hww:w2.os=w.os∧w2.tape=w.tape∧w2.output=w.output:=by rw [← hw2]; exact ⟨rfl,rfl,rfl⟩
  have hlt:∀ b,e.owned b→b < w.heap.size:=fun b ⟨id,m,hm,hb⟩=>hc.sim.blk_lt hm hb
  have hsubO:∀ b,e.subOwn ps b→e.owned b:=fun b hb=>subOwn_owned hb
  let F0:Nat→Prop:=fun b=>e.q b∧CellIn w b
  have hF0:∀ b,F0 b→b < w.heap.size∧¬ e.owned b:=fun b hb=>⟨hb.2.lt,hb.1.2⟩
  let S0:Nat→Prop:=fun b=>b < w2.heap.size∧¬ e.subOwn ps b∧¬ F0 b
  let eJ0:Env:={ get:=fun n=>(look n qs).bind e.get,pr:=fun b=>(e.pr b∧b < w.heap.size∧¬ e.subOwn ps b)∨w2.heap.size≤b,bs:=0 }
  have hgJ:∀ n id,look n qs=some id→eJ0.get n=e.get id:=fun n id hl=>by show (look n qs).bind e.get=_; rw [hl]; rfl
  have hoJ:∀ b,eJ0.owned b→e.owned b:=by
    rintro b ⟨n,m,hm,hb⟩
    simp only [eJ0,Option.bind_eq_some_iff] at hm
    obtain ⟨id,_,hm⟩:=hm
    exact ⟨id,m,hm,hb⟩
  have hdis:∀ n,(look n ps).isSome=true→look n qs=none:=fun n hn=>by
    cases hl:look n qs with
    | none=>rfl
    | some id =>
      exfalso
      have h1:=psOk_1 hpq
      obtain ⟨id',hl'⟩:=Option.isSome_iff_exists.1 hn
      have aux:∀ l:List Nat,∀ l' : List Nat,distinct (l ++ l')=true→∀ x,x∈l→x∈l'→False:=by
        intro l
        induction l with
        | nil=>intro l' _ x hx; simp at hx
        | cons y ys ih =>
          intro l' hd x hx hx'
          simp only [List.cons_append,distinct,Bool.and_eq_true,Bool.not_eq_true',List.contains_eq_mem,decide_eq_false_iff_not,List.mem_append,not_or] at hd
          rcases List.mem_cons.1 hx with rfl | hx
          · exact hd.1.2 hx'
          · exact ih l' hd.2 x hx hx'
      rw [List.map_append] at h1
      exact aux _ _ h1 n (List.mem_map.2 ⟨_,look_mem hl',rfl⟩) (List.mem_map.2 ⟨_,look_mem hl,rfl⟩)
  have hdis2:∀ n n' id,look n ps=some id→look n' qs=some id→False:=fun n n' id h1 h2=>by
    have h3:=psOk_2 hpq
    have aux:∀ l:List Nat,∀ l' : List Nat,distinct (l ++ l')=true→∀ x,x∈l→x∈l'→False:=by
      intro l
      induction l with
      | nil=>intro l' _ x hx; simp at hx
      | cons y ys ih =>
        intro l' hd x hx hx'
        simp only [List.cons_append,distinct,Bool.and_eq_true,Bool.not_eq_true',List.contains_eq_mem,decide_eq_false_iff_not,List.mem_append,not_or] at hd
        rcases List.mem_cons.1 hx with rfl | hx
        · exact hd.1.2 hx'
        · exact ih l' hd.2 x hx hx'
    rw [List.map_append] at h3
    exact aux _ _ h3 id (List.mem_map.2 ⟨_,look_mem h1,rfl⟩) (List.mem_map.2 ⟨_,look_mem h2,rfl⟩)
  have hsubJ:∀ b,eJ0.owned b→¬ e.subOwn ps b:=by
    rintro b ⟨n,m,hm,hb⟩ ⟨n',m',hm',hb'⟩
    simp only [eJ0,Option.bind_eq_some_iff] at hm
    simp only [Option.bind_eq_some_iff] at hm'
    obtain ⟨id,q1,q2⟩:=hm
    obtain ⟨id',q3,q4⟩:=hm'
    have:=hc.sim.inj id id' m m' b q2 q4 hb hb'
    subst this
    exact hdis2 n' n id q3 q1
  have hqJ:∀ b,e.q b→b < w.heap.size→w2.heap[b]?=w.heap[b]?∧eJ0.q b:=fun b hb hb'=>⟨ho2 b hb',.inl ⟨hb.1,hb',fun h=>hb.2 (hsubO b h)⟩,fun ho=>hb.2 (hoJ b ho)⟩
  have hRF0:RF st.nt tm qs a.tmps w e (e.subOwn ps) F0 (w.heap.size + 1) w.heap.size (rec0 .ready none) objsR w2 S0 eJ0:=by
    refine ⟨⟨⟨fun n=>?_,fun i j m m' x hi hj hbi hbj=>?_,handed_obj hc.sim (psOk_l hqs) hoR hgJ hqJ (by omega) hww (fun b hb=>ho2 b (hlt b hb)),fun b hb=>.inl ⟨hc.sim.prok b (hoJ b hb),hlt b (hoJ b hb),hsubJ b hb⟩,fun b hb=>.inr hb⟩,Marks.nil (Nat.zero_le _),hc.size,fun t x hx=>?_⟩,
      hww.1,hww.2.1,hww.2.2,by omega,fun b hb _=>ho2 b hb,fun b hb _=>hoJ b hb,fun b hb hn=>(Classical.em (F0 b)).elim .inr fun hf=>.inl ⟨by omega,hn,hf⟩,hsubO,hF0,fun b hb hp=>?_,fun b hp=>?_,hL2,hD2,⟨by omega,fun h=>by have:=hlt _ (hsubO _ h); omega,fun h=>by have:=hF0 _ h; omega⟩,⟨by omega,fun h=>by have:=hlt _ (hsubO _ h); omega,fun h=>by have:=hF0 _ h; omega⟩,
      fun h=>by have:=hlt _ (hoJ _ h); omega,fun h=>by have:=hlt _ (hoJ _ h); omega,by omega,Nat.le_refl _,fun n _ _=>rfl⟩
    · rw [(objsFor_get hoR n).1]
      show ((look n qs).bind e.get).isSome=_
      rw [Option.isSome_map]
      cases look n qs with
      | none=>rfl
      | some id=>exact hc.sim.dom id
    · simp only [eJ0,Option.bind_eq_some_iff] at hi hj
      obtain ⟨i',p1,p2⟩:=hi
      obtain ⟨j',q1,q2⟩:=hj
      have:=hc.sim.inj i' j' m m' x p2 q2 hbi hbj
      subst this
      have e1:=look_findOld (psOk_2 hqs) p1
      rw [look_findOld (psOk_2 hqs) q1] at e1
      cases e1; rfl
    · obtain ⟨y,hy,hny,rfl⟩:=tmpsFor_get htm t x hx
      obtain ⟨v,hv,hr⟩:=hc.tmp t y hy
      refine ⟨v,hv,hr.ren _ (fun id m hid hm=>?_) (.inl hqJ)⟩
      obtain ⟨n',h1⟩:=findOld_mem (AV.named_men y hny hid)
      exact ⟨m,by rw [show expName qs id=n' from by simp [expName,h1],hgJ n' id (findOld_look (psOk_1 hqs) h1)]; exact hm,m.same_refl⟩
    · rcases hp with ⟨_,h1,h2⟩ | h1
      · exact (Classical.em (F0 b)).elim .inr fun hf=>.inl ⟨hb,h2,hf⟩
      · omega
    · rcases hp with ⟨h1,_⟩ | h1
      · exact h1
      · exact hc.sim.new b (by omega)
  have hmen:∀ t x,look t tm=some x→∀ j,x.men j=true→10000≤j∧j < 15000:=by
    intro t x hx j hj
    obtain ⟨y,hy,hny,rfl⟩:=tmpsFor_get htm t x hx
    obtain ⟨i,h1,rfl⟩:=AV.men_ren y hj
    obtain ⟨n',h2⟩:=findOld_mem (AV.named_men y hny h1)
    have h3:=findOld_look (psOk_1 hqs) h2
    rw [show expName qs i=n' from by simp [expName,h2]]
    rcases psOk_3 hqs h3 with h4 | h4
    · exact h4
    · have:=List.all_eq_true.1 h199 (n',i) (List.mem_append_right _ (look_mem h3))
      simp [h4.1] at this
  have h20:look 20000 objsR=none:=by
    rw [(objsFor_get hoR 20000).1]
    cases hl:look 20000 qs with
    | none=>rfl
    | some id=>have:=psOk_3 hqs hl; omega
  have hACl:=hcall (w.heap.size + 1) ⟨F0,fun w' S=>∃ e',RF st.nt tm qs a.tmps w e (e.subOwn ps) F0 (w.heap.size + 1) w.heap.size (rec0 .ready none) objsR w' S e'⟩
    (fun vals=>⟨F0,fun w' S=>∃ e',RF st.nt tm qs a.tmps w e (e.subOwn ps) F0 (w.heap.size + 1) w.heap.size (rec0 .done (some .ret)) ((Z vals).getD []) w' S e'⟩) (fun vals hV=>by
      have:=RF.yield (P:=P) (l:=w.heap.size + 1) (tmps:=a.tmps) (qs:=qs) (w1:=w) (e1:=e) (O:=e.subOwn ps) (F:=F0) hc.sim.new hc.sim.prok hp h20 hmen hrec0 (hround vals hV)
      intro w' S' g' cap' cur' k1 k2 k3 k4 k4' k5 k6 k7 k8 k9
      obtain ⟨fn',tmps',as',bo',r1,r2⟩:=this w' S' g' cap' cur' k1 k2 k3 k4 k4' k5 k6 k7 k8 k9
      refine ⟨fn',tmps',as',bo',r1,r2.mono ?_⟩
      rintro en w'' ⟨t,J',S'',q1,q2,q3⟩
      refine ⟨t,J',S'',q1, ?_,q3⟩
      rcases q2 with q2 | ⟨oX,z1,z2,z3⟩
      · exact .inl q2
      · exact .inr ⟨oX,z1,z2,by rw [z3,z1]; rfl⟩)
  let m19:Mta:={ blk:=some (w.heap.size + 1),cap:=0,sz:=0,more:=S0 }
  have hhas:m19.has=S0:=funext fun b=>propext ⟨fun hb=>by
    rcases hb with hb | hb
    · cases hb; exact hRF0.Sl
    · exact hb,fun hb=>.inr hb⟩
  let ec:Env:={ get:=fun n=>if n=19999 then some m19 else (look n ps).bind e.get,pr:=fun _=>True,bs:=0 }
  have hnps:look 19999 ps=none:=by
    cases hl:look 19999 ps with
    | none=>rfl
    | some id =>
      have:=List.all_eq_true.1 h199 (19999,id) (List.mem_append_left _ (look_mem hl))
      simp at this
  have hpsr:∀ n id,look n ps=some id→10000≤n∧n < 15000:=fun n id hl=>by
    rcases psOk_3 hps hl with h4 | h4
    · exact h4
    · rw [h4.1,hnps] at hl; cases hl
  have hgc:∀ n id,look n ps=some id→ec.get n=e.get id:=fun n id hl=>by
    show (if n=19999 then some m19 else (look n ps).bind e.get)=_
    rw [if_neg (by have:=hpsr n id hl; omega),hl]; rfl
  have hecq:∀ b,F0 b→ec.q b:=fun b hb=>⟨trivial,fun ⟨n,m,hm,hmb⟩=>by
    simp only [ec] at hm
    split at hm
    · cases hm; rw [hhas] at hmb; exact hmb.2.2 hb
    · simp only [Option.bind_eq_some_iff] at hm
      obtain ⟨id,_,hm⟩:=hm
      exact hb.1.2 ⟨id,m,hm,hmb⟩⟩
  have hcell2:∀ b,CellIn w2 b→CellIn w b:=fun b hb=>by
    rcases Nat.lt_or_ge b w.heap.size with h1 | h1
    · exact hb.of_same (ho2 b h1).symm
    · exfalso
      have h3:b < w2.heap.size:=hb.lt
      obtain ⟨o',v',hv'⟩:=hb
      have h2:b=w.heap.size∨b=w.heap.size + 1:=by omega
      rcases h2 with rfl | rfl
      · simp [World.cell?,hD2] at hv'
      · simp [World.cell?,hL2] at hv'
  have hsim:Sim w2 ec ((19999,.ext (w.heap.size + 1) ⟨F0,fun w' S=>∃ e',RF st.nt tm qs a.tmps w e (e.subOwn ps) F0 (w.heap.size + 1) w.heap.size (rec0 .ready none) objsR w' S e'⟩) :: os):=by
    refine ⟨fun n=>?_,fun i j m m' x hi hj hbi hbj=>?_,fun n o m ho hm=>?_,fun _ _=>trivial,fun _ _=>trivial⟩
    · simp only [ec,look]
      by_cases h1:19999=n
      · subst h1; simp
      · rw [if_neg (Ne.symm h1),if_neg h1,(objsFor_get hos n).1,Option.isSome_map]
        cases look n ps with
        | none=>rfl
        | some id=>exact hc.sim.dom id
    · simp only [ec] at hi hj
      split at hi <;> split at hj
      · rename_i h1 h2; rw [h1,h2]
      · cases hi
        simp only [Option.bind_eq_some_iff] at hj
        obtain ⟨j',q1,q2⟩:=hj
        rw [hhas] at hbi
        exact absurd ⟨j,m',by rw [q1]; exact q2,hbj⟩ hbi.2.1
      · cases hj
        simp only [Option.bind_eq_some_iff] at hi
        obtain ⟨j',q1,q2⟩:=hi
        rw [hhas] at hbj
        exact absurd ⟨i,m,by rw [q1]; exact q2,hbi⟩ hbj.2.1
      · simp only [Option.bind_eq_some_iff] at hi hj
        obtain ⟨i',p1,p2⟩:=hi
        obtain ⟨j',q1,q2⟩:=hj
        have:=hc.sim.inj i' j' m m' x p2 q2 hbi hbj
        subst this
        have e1:=look_findOld (psOk_2 hps) p1
        rw [look_findOld (psOk_2 hps) q1] at e1
        cases e1; rfl
    · simp only [look] at ho
      simp only [ec] at hm
      by_cases h1:19999=n
      · subst h1
        rw [if_pos rfl] at ho hm
        cases ho; cases hm
        exact ⟨rfl,fun b hb=>by rw [hhas] at hb; exact hb.1,by rw [hhas]; exact ⟨eJ0,hRF0⟩,fun b hb=>⟨hb.2.of_same (ho2 b (hF0 b hb).1),hecq b hb⟩,RF.stab hc.sim.new⟩
      · rw [if_neg h1] at ho; rw [if_neg (Ne.symm h1)] at hm
        have hgv:∀ n id,look n ps=some id→(e.view ps false).get n=e.get id:=fun n id hl=>by show (look n ps).bind e.get=_; rw [hl]; rfl
        have:=handed_obj hc.sim (psOk_l hps) hos hgv (fun b hb hb'=>⟨ho2 b hb',view_q hc.sim.prok hb⟩) (by omega) hww (fun b hb=>ho2 b (hlt b hb)) n o m ho hm
        refine this.moveP (List.all_eq_true.1 hbox _ (look_mem ho)) (fun _ _=>rfl) fun b hb hbc=>⟨rfl,hecq b ⟨?_,hcell2 b hbc⟩⟩
        rcases hb.1 with hp | hp
        · exact hp
        · exact absurd hp hb.2
  refine ⟨w.heap.size + 1,[{ target:=.collected w.heap.size,args:=#[] }],w2,{ target:=.fn (.func f) vs,args:=#[.func (.yield (w.heap.size + 1)) #[] #[]] },w2,f,
    #[.func (.yield (w.heap.size + 1)) #[] #[]] ++ vs,w2, ?_, ?_,fun _ _=>trivial, ?_,fun hd=>by simp [FR] at hd, ?_⟩
  · rw [← hw2,hrec0]; exact run_enterLoop_outer _ _ _ _ _
  · simp only [resolve,hev]
    simp [go_sem]
  · obtain ⟨fn',h1,h2,h3⟩:=hACl.able
    have h2' : ¬ fn'.name = "runtime.NumGoroutine" := by simpa using h2
    have h3' : ¬ fn'.body=none:=fun hb=>by rw [hb] at h3; simp at h3
    simp [invoke,go_sem,callFunc,h1,h2',h3']
  obtain ⟨hyl,hyr⟩:=capR_rd hps (w:=w) (w':=w2) hgc hcap
  refine callsIn_FR ((hACl.run w2 ec _ hsim (by simp [hvs,hyl,Nat.add_comm]) (fun i y v hy hv=>?_)).mono ?_)
  · cases i with
    | zero =>
      simp at hy; subst hy
      have hv0:v = .func (.yield (w.heap.size + 1)) #[] #[]:=by
        rw [Array.getElem?_append_left (by simp)] at hv
        simpa using hv.symm
      subst hv0
      exact .yld 19999 m19 _ (by simp [ec]) rfl
    | succ i =>
      have hy' : ys[i]?=some y:=by simpa using hy
      have hv' : vs[i]?=some v:=by
        rw [Array.getElem?_append_right (by simp)] at hv
        simpa using hv
      exact hyr i y v hy' (fun x hx=>hvr i x v hx hv')
  rintro en w3 ⟨v,r',objs',ec',rfl,rfl,hs',hf',_⟩
  obtain ⟨m',hm'⟩:=Option.isSome_iff_exists.1 (show (ec'.get 19999).isSome=true by rw [hs'.dom]; simp [look])
  have hsubA:∀ b,e.owned b→e.subOwn (ps ++ qs) b:=by
    rintro b ⟨id,m,hm,hb⟩
    have hd':=hc.sim.dom id
    rw [hm] at hd'
    obtain ⟨o,ho⟩:=look_some_mem.1 hd'.symm
    have:=List.all_eq_true.1 hall _ ho
    obtain ⟨n,hn⟩:=findOld_mem (ks:=ps ++ qs) (id:=id) (by simpa using this)
    exact ⟨n,m,by rw [findOld_look (psOk_1 hpq) hn]; exact hm,hb⟩
  have hprA:∀ b,e.pr b→(e.view (ps ++ qs) false).pr b:=fun b hb=>by
    by_cases ho:e.owned b
    · exact .inr (hsubA b ho)
    · exact .inl ⟨hb,ho⟩
  have hlapp:∀ n,look n (ps ++ qs)=if (look n ps).isSome then look n ps else look n qs:=fun n=>by
    rw [look_append]; cases look n ps <;> rfl
  have key:∀ (stt:LoopState) (jump:Option Code) (objsJ:List (Nat×Obj)) (eJ:Env),RF st.nt tm qs a.tmps w e (e.subOwn ps) F0 (w.heap.size + 1) w.heap.size (rec0 stt jump) objsJ w3 m'.has eJ →
      (backOk (ps ++ qs) d (os ++ objsJ) && (objsJ.all fun x=>(look x.1 ps).isNone) && ((st.adopt (ps ++ qs) d (os ++ objsJ)).objs.all fun x=>x.2.notExt))=true →
      ∃ e4, Conc (st.adopt (ps ++ qs) d (os ++ objsJ)) { a with defers := [{ target := .collected w.heap.size, args := #[] }] ++ a.defers } (w3.putObj (w.heap.size + 1) (.loop { rec0 stt jump with state := .exhausted })) e4 ∧
        Fr w e (w3.putObj (w.heap.size + 1) (.loop { rec0 stt jump with state:=.exhausted })) e4:=by
    intro stt jump objsJ eJ hRF hok
    simp only [Bool.and_eq_true,List.all_eq_true,Option.isNone_iff_eq_none] at hok
    obtain ⟨⟨hback,hkeys⟩,hnx⟩:=hok
    have hl3:=hRF.hrec
    have hll:w.heap.size + 1 < w3.heap.size:=(Array.getElem?_eq_some_iff.1 hl3).1
    obtain ⟨c4,_⟩:=hRF.conc.putLoop hl3 hRF.nl { rec0 stt jump with state:=.exhausted }
    generalize hw4:w3.putObj (w.heap.size + 1) (.loop { rec0 stt jump with state:=.exhausted })=w4 at c4 ⊢
    have h4o:∀ b,b≠w.heap.size + 1→w4.heap[b]?=w3.heap[b]?:=fun b hb=>by rw [← hw4]; exact World.putObj_heap_other hb
    have h4s:w4.heap.size=w3.heap.size:=by rw [← hw4]; simp
    have h4w:w4.os=w3.os∧w4.tape=w3.tape∧w4.output=w3.output:=by rw [← hw4]; exact ⟨rfl,rfl,rfl⟩
    let eb:Env:={ get:=fun n=>if (look n ps).isSome then ec'.get n else eJ.get n,pr:=(e.view (ps ++ qs) false).pr,bs:=e.bs }
    have hpin:∀ n id,look n ps=some id→ec'.get n=e.get id:=fun n id hl=>by
      obtain ⟨h1,h2⟩:=hpsr n id hl
      rw [hf'.pin n h1 h2,hgc n id hl]
    have hgb1:∀ n id,look n ps=some id→eb.get n=e.get id:=fun n id hl=>by
      show (if (look n ps).isSome then ec'.get n else eJ.get n)=_
      rw [hl]; exact hpin n id hl
    have hgb2:∀ n,look n ps=none→eb.get n=eJ.get n:=fun n hl=>by
      show (if (look n ps).isSome then ec'.get n else eJ.get n)=_
      rw [hl]; rfl
    have hkn:∀ n,(look n objsJ).isSome=true→look n ps=none:=fun n hn=>by
      obtain ⟨o,ho⟩:=look_some_mem.1 hn
      exact hkeys _ ho
    have hJs:∀ n m,eJ.get n=some m→look n ps=none:=fun n m hm=>hkn n (by have:=hRF.conc.sim.dom n; rw [hm] at this; exact this.symm)
    have hapart:∀ n id m b,look n ps=some id→e.get id=some m→m.has b→¬ (eJ.pr b∧b < w3.heap.size):=by
      rintro n id m b hl hm hb ⟨h1,h2⟩
      have h3:=(hRF.prS b h2 h1).resolve_right fun hf=>(hF0 b hf).2 ⟨id,m,hm,hb⟩
      have h4:=hs'.inj n 19999 m m' b (by rw [hpin n id hl]; exact hm) hm' hb h3
      have:=hpsr n id hl
      omega
    have hbown:∀ b,eb.owned b→(∃ n id m,look n ps=some id∧e.get id=some m∧m.has b)∨eJ.owned b:=by
      rintro b ⟨n,m,hm,hb⟩
      cases hl:look n ps with
      | some id=>rw [hgb1 n id hl] at hm; exact .inl ⟨n,id,m,hl,hm,hb⟩
      | none=>rw [hgb2 n hl] at hm; exact .inr ⟨n,m,hm,hb⟩
    have hJlt:∀ b,eJ.owned b→b < w3.heap.size:=fun b ⟨id,m,hm,hb⟩=>hRF.conc.sim.blk_lt hm hb
    have hsA:∀ n id m b,look n ps=some id→e.get id=some m→m.has b→e.subOwn (ps ++ qs) b:=fun n id m b hl hm hb=>⟨n,m,by rw [hlapp,hl]; exact hm,hb⟩
    have hsimb:Sim w4 eb (os ++ objsJ):=by
      refine ⟨fun n=>?_,fun i j mi mj b hi hj hbi hbj=>?_,fun n o m ho hm=>?_,fun b hb=>?_,fun b hb=>?_⟩
      · rw [look_append,(objsFor_get hos n).1]
        cases hl:look n ps with
        | some id =>
          rw [hgb1 n id hl]
          simp only [Option.bind_some]
          have hd':=hc.sim.dom id
          cases hlo:look id st.objs with
          | some o=>rw [hlo] at hd'; simpa using hd'
          | none =>
            rw [hlo] at hd'
            simp only [Option.map_none]
            rw [hd']
            cases hlj:look n objsJ with
            | none=>rfl
            | some o=>have:=hkn n (by rw [hlj]; rfl); rw [hl] at this; cases this
        | none=>rw [hgb2 n hl]; exact hRF.conc.sim.dom n
      · cases hli:look i ps with
        | some idi =>
          rw [hgb1 i idi hli] at hi
          cases hlj:look j ps with
          | some idj =>
            rw [hgb1 j idj hlj] at hj
            have:=hc.sim.inj idi idj mi mj b hi hj hbi hbj
            subst this
            have e1:=look_findOld (psOk_2 hps) hli
            rw [look_findOld (psOk_2 hps) hlj] at e1
            cases e1; rfl
          | none =>
            rw [hgb2 j hlj] at hj
            have ho:eJ.owned b:=⟨j,mj,hj,hbj⟩
            exact absurd ⟨hRF.conc.sim.prok b ho,hJlt b ho⟩ (hapart i idi mi b hli hi hbi)
        | none =>
          rw [hgb2 i hli] at hi
          cases hlj:look j ps with
          | some idj =>
            rw [hgb1 j idj hlj] at hj
            have ho:eJ.owned b:=⟨i,mi,hi,hbi⟩
            exact absurd ⟨hRF.conc.sim.prok b ho,hJlt b ho⟩ (hapart j idj mj b hlj hj hbj)
          | none=>rw [hgb2 j hlj] at hj; exact hRF.conc.sim.inj i j mi mj b hi hj hbi hbj
      · cases hl : look n ps with
        | some id =>
          have hec:ec'.get n=some m:=by rw [hpin n id hl,← hgb1 n id hl]; exact hm
          have hlo:look n os=some o:=by
            rw [look_append] at ho
            cases hlo:look n os with
            | some o'=>rw [hlo] at ho; exact ho
            | none =>
              rw [hlo] at ho
              have:=hkn n (by rw [show look n objsJ=some o from ho]; rfl)
              rw [hl] at this; cases this
          have hne:¬ 19999=n:=by have:=hpsr n id hl; omega
          have h5:=hs'.obj n o m (by simp only [look]; rw [if_neg hne]; exact hlo) hec
          refine h5.moveP (List.all_eq_true.1 hbox _ (look_mem hlo)) (fun b hb=>h4o b (fun he=>?_)) fun b hbq hbc=>⟨h4o b (fun he=>?_), ?_⟩
          subst he
          have hE:ExtOk w3 ec' m' (w.heap.size + 1) _:=hs'.obj 19999 _ m' look_head hm'
          · exact hne (hs'.inj n 19999 m m' _ hec hm' hb (.inl hE.blk)).symm
          · subst he
            obtain ⟨o',v',hv'⟩:=hbc
            simp [World.cell?,hRF.hrec] at hv'
          · have hnS:¬ m'.has b:=fun hS=>hbq.2 ⟨19999,m',hm',hS⟩
            have hnO:¬ e.subOwn ps b:=by
              rintro ⟨n',m'',k1,k2⟩
              simp only [Option.bind_eq_some_iff] at k1
              obtain ⟨id',k3,k4⟩:=k1
              exact hbq.2 ⟨n',m'',by rw [hpin n' id' k3]; exact k4,k2⟩
            have hbl:b < w.heap.size→F0 b:=fun hlt'=>(hRF.cov b hlt' hnO).resolve_left hnS
            refine ⟨hprA b ?_,fun hob=>?_⟩
            · rcases Nat.lt_or_ge b w.heap.size with k1 | k1
              · exact (hbl k1).1.1
              · exact hc.sim.new b k1
            · rcases hbown b hob with ⟨n',id',m'',k1,k2,k3⟩ | k
              · exact hnO ⟨n',m'',by rw [k1]; exact k2,k3⟩
              · rcases hRF.prS b hbc.lt (hRF.conc.sim.prok b k) with k1 | k1
                · exact hnS k1
                · exact (hF0 b k1).2 (hRF.own b k (hF0 b k1).1)
        | none =>
          rw [hgb2 n hl] at hm
          have hlo:look n objsJ=some o:=by
            rw [look_append,(objsFor_get hos n).1,hl] at ho
            exact ho
          have:=(c4.sim.obj n o m hlo hm).ren (w':=w4) (e':=eb) (fun i=>i) (fun id mi _ hg=>⟨mi,by rw [hgb2 id (hJs id mi hg)]; exact hg,mi.same_refl⟩) (.inl fun b hb hlt'=>⟨rfl,hprA b (hRF.pr1 b hb.1),fun hob=>?_⟩) (Nat.le_refl _) ⟨rfl,rfl,rfl⟩ (fun _ _=>rfl)
          · rwa [men_ren_id] at this
          · rcases hbown b hob with ⟨n',id',m'',k1,k2,k3⟩ | k
            · exact hapart n' id' m'' b k1 k2 k3 ⟨hb.1,by rw [← h4s]; exact hlt'⟩
            · exact hb.2 k
      · rcases hbown b hb with ⟨n',id',m'',k1,k2,k3⟩ | k
        · exact .inr (hsA n' id' m'' b k1 k2 k3)
        · exact hprA b (hRF.pr1 b (hRF.conc.sim.prok b k))
      · have h5:w.heap.size≤b:=by have:=hRF.size; omega
        exact .inl ⟨hc.sim.new b h5,fun ho=>by have:=hlt b ho; omega⟩
    have hfrb:Fr w (e.view (ps ++ qs) false) w4 eb:=by
      refine ⟨h4w.1.trans hRF.os,h4w.2.1.trans hRF.tape,h4w.2.2.trans hRF.output,by rw [h4s]; exact hRF.size,fun b hb hn=>?_,fun b hb hlt'=>?_,rfl,⟨fun n n1 n2=>?_,fun m hm=>?_⟩⟩
      · rw [h4o b (by omega)]
        exact hRF.blk b hb (fun ho=>hn (hsubA b ho))
      · rcases hbown b hb with ⟨n',id',m'',k1,k2,k3⟩ | k
        · exact hsA n' id' m'' b k1 k2 k3
        · exact hsubA b (hRF.own b k hlt')
      · show _=(look n (ps ++ qs)).bind e.get
        cases hl:look n ps with
        | some id=>rw [hgb1 n id hl,hlapp,hl]; rfl
        | none=>rw [hgb2 n hl,hlapp,hl,hRF.pin n n1 n2]; rfl
      · exfalso
        have hm2:(look 19999 (ps ++ qs)).bind e.get=some m:=hm
        cases hl:look 19999 (ps ++ qs) with
        | none=>rw [hl] at hm2; cases hm2
        | some id =>
          have:=List.all_eq_true.1 h199 (19999,id) (look_mem hl)
          simp at this
    obtain ⟨e3,q1,q2,_⟩:=adopt_conc hc false hpq hd hback hsimb hfrb (r:=.dead) (v:=v) (.dead v) rfl
    have hD4:w4.heap[w.heap.size]?=some (.deferred (some [])):=by rw [h4o _ (by omega)]; exact hRF.dfr
    refine ⟨e3,⟨q1.sim,⟨⟨List.nodup_cons.2 ⟨fun hmem=>?_,q1.defers.1.1⟩,q1.defers.1.2⟩,fun d' hd'=>?_⟩,q1.size,q1.tmp⟩,q2⟩
    · obtain ⟨D,g1,g2,_⟩:=hc.defers.2 _ hmem
      have hDD:D=w.heap.size:=by cases g1; rfl
      subst hDD
      have:=(Array.getElem?_eq_some_iff.1 g2).1
      omega
    · rcases List.mem_cons.1 hd' with rfl | hd'
      · exact ⟨w.heap.size,rfl,hD4,not_owned_deferred q1.sim (List.all_eq_true.2 fun x hx=>hnx x hx) hD4,by rw [q2.bs]; exact hc.defers.1.2⟩
      · exact q1.defers.2 d' hd'
  have hE:ExtOk w3 ec' m' (w.heap.size + 1) _:=hs'.obj 19999 _ m' look_head hm'
  have hJ:=hE.holds
  cases hres:res with
  | none =>
    rw [hres] at hJ
    obtain ⟨eJ,hRF⟩:=hJ
    obtain ⟨hok,hQ⟩:=hN hres
    obtain ⟨e4,k1,k2⟩:=key .ready none objsR eJ hRF hok
    subst hrec0
    exact ⟨_,_,run_endLoop hRF.hrec (by simp),_,e4,k1,k2,hQ⟩
  | some vx =>
    rw [hres] at hJ
    obtain ⟨eJ,hRF⟩:=hJ
    obtain ⟨oX,hz,hok,hQ⟩:=hX vx hres
    rw [hz] at hRF
    obtain ⟨e4,k1,k2⟩:=key .done (some .ret) oX eJ hRF hok
    subst hrec0
    exact ⟨_,_,run_endLoop hRF.hrec (by simp),wpIn_ret ⟨_,e4,k1,k2,hQ⟩⟩
end
theorem Qnorm {Q:Exit→St→Prop} {x:Exit} {st st' : St} (h:st=st') (k:Q x st'):Q x st:=by subst h; exact k
theorem YieldOk.mono {P:Program} {l:Nat} {J:Fgn} {ty:TypeId} {vals:List Value} {R R' : Bool→Fgn→Prop} (h:YieldOk P l J ty vals R) (hr:∀ t J',R t J'→R' t J'):YieldOk P l J ty vals R':=by
  intro w S g cap cur k1 k2 k3 k4 k4' k5 k6 k7 k8 k9
  obtain ⟨fn,tmps,as,bo,r1,r2⟩:=h w S g cap cur k1 k2 k3 k4 k4' k5 k6 k7 k8 k9
  exact ⟨fn,tmps,as,bo,r1,r2.mono fun en w' ⟨t,J',S',q1,q2,q3⟩=>⟨t,J',S',q1,hr _ _ q2,q3⟩⟩
attribute [simp] capR St.tmpsFor Obj.plain Obj.notExt
end Go.Sim
namespace Go.Sim
open Go.RowKit
section
variable {P:Program} {Γ:TypeId→Option TI}
mutual
def AV.pv:AV→Option Value
  | .val v=>some v
  | .agg l=>(AV.pvL l).map fun vs=>.agg vs.toArray
  | _=>none
def AV.pvL : List AV → Option (List Value)
  | []=>some []
  | x :: xs=>match AV.pv x,AV.pvL xs with
    | some v,some vs=>some (v :: vs)
    | _,_=>none
end
mutual
theorem AV.pv_rd:∀ (x:AV) {v:Value},x.pv=some v→∀ (w:World) (e:Env),Rd w e x v
  | .val _,v,h,w,e=>by cases h; exact .data (.val _)
  | .agg l,v,h,w,e=>by
    simp only [AV.pv,Option.map_eq_some_iff] at h
    obtain ⟨vs,h1,rfl⟩:=h
    obtain ⟨h2,h3⟩:=AV.pvL_rd l h1
    exact .agg l _ (by simpa using h2) fun i x u hx hu=>h3 i x u hx (by simpa using hu) w e
theorem AV.pvL_rd:∀ (l:List AV) {vs:List Value},AV.pvL l=some vs→vs.length=l.length∧∀ (i:Nat) (x:AV) (u:Value),l[i]?=some x→vs[i]?=some u→∀ (w:World) (e:Env),Rd w e x u
  | [],vs,h=>by cases h; exact ⟨rfl,fun i x u hx=>by simp at hx⟩
  | x :: xs, vs, h => by
    simp only [AV.pvL] at h
    split at h
    · rename_i v vs' h1 h2
      cases h
      obtain ⟨h3,h4⟩:=AV.pvL_rd xs h2
      refine ⟨by simp [h3],fun i y u hy hu=>?_⟩
      cases i with
      | zero=>simp at hy hu; subst hy; subst hu; exact AV.pv_rd x h1
      | succ i=>exact h4 i y u (by simpa using hy) (by simpa using hu)
    · cases h
end
mutual
theorem AV.pv_eq:∀ (x:AV) {v u:Value},x.pv=some v→∀ {w:World} {e:Env},Rd w e x u→u=v
  | .val _,v,u,h,w,e,hr=>by cases h; exact hr.val_inv
  | .agg l,v,u,h,w,e,hr=>by
    simp only [AV.pv,Option.map_eq_some_iff] at h
    obtain ⟨vs,h1,rfl⟩:=h
    obtain ⟨us,rfl,h2,h3⟩:=hr.agg_inv
    have:=AV.pvL_eq l h1 (us:=us.toList) (by simpa using h2) (w:=w) (e:=e) fun i x u hx hu=>h3 i x u hx (by simpa using hu)
    rw [← this]
theorem AV.pvL_eq : ∀ (l : List AV) {vs us : List Value}, AV.pvL l = some vs → us.length = l.length → ∀ {w : World} {e : Env}, (∀ (i : Nat) (x : AV) (u : Value), l[i]? = some x → us[i]? = some u → Rd w e x u) → us = vs
  | [],vs,us,h,hl,w,e,hr=>by cases h; exact List.length_eq_zero_iff.1 hl
  | x :: xs, vs, us, h, hl, w, e, hr => by
    simp only [AV.pvL] at h
    split at h
    · rename_i v vs' h1 h2
      cases h
      cases us with
      | nil=>simp at hl
      | cons u us =>
        have e1:=AV.pv_eq x h1 (hr 0 x u rfl rfl)
        have e2:=AV.pvL_eq xs h2 (us:=us) (by simpa using hl) (w:=w) (e:=e) fun i y z hy hz=>hr (i + 1) y z (by simpa using hy) (by simpa using hz)
        rw [e1,e2]
    · cases h
end
def YieldV (P : Program) (l : Nat) (J : Fgn) (xs : List AV) (R : Bool → Fgn → Prop) : Prop :=
  ∀ vals, AV.pvL xs = some vals → ∀ (w : World) (S : Nat → Prop), J.J w S → (∀ b, S b → b < w.heap.size) → S l →
    ∃ fn tmps assign body, (Instr.yield l vals.toArray).run P w = .ok (.round l fn tmps assign body) w ∧
      RoundIn Fence.wide 0 P l fn tmps assign body w fun en w'=>∃ t J' S',en = .returned (.bool t)∧R t J'∧J'.F=J.F∧J'.J w' S'∧Stab J'∧S' l ∧
        (∀ b,S' b→b < w'.heap.size)∧(∀ b,S' b→b < w.heap.size→S b)∧w'.os=w.os∧w'.tape=w.tape∧w'.output=w.output∧w.heap.size≤w'.heap.size ∧
        ∀ b,b < w.heap.size→¬ S b→w'.heap[b]?=w.heap[b]?
theorem YieldV.mono {l:Nat} {J:Fgn} {xs:List AV} {R R' : Bool→Fgn→Prop} (h:YieldV P l J xs R) (hr:∀ t J',R t J'→R' t J'):YieldV P l J xs R':=by
  intro vals hv w S k1 k2 k3
  obtain ⟨fn,tmps,as,bo,r1,r2⟩:=h vals hv w S k1 k2 k3
  exact ⟨fn,tmps,as,bo,r1,r2.mono fun en w' ⟨t,J',S',q1,q2,q3⟩=>⟨t,J',S',q1,hr _ _ q2,q3⟩⟩
def St.yieldedV (st:St) (l:Nat) (J:Fgn):St:={ st with objs:=upd 19999 (.ext l J) st.objs }
theorem WOp.yieldV {o:Oper} {f:Operand} {args:Array Operand} {tys:Array TypeId} (ho:o.op = .call { callee:=.value f,args,argTypes:=tys }) {st:St} {l:Nat} {J:Fgn} {xs:List AV} {R:Bool→Fgn→Prop}
    (hf:st.ev f = .yld 19999) (hobj:look 19999 st.objs=some (.ext l J)) (hx:args.toList.map st.ev=xs) (hp:(AV.pvL xs).isSome=true) (hy:YieldV P l J xs R)
    {K:AV→St→Prop} (hK:∀ t J',R t J'→K (.val (.bool t)) (st.yieldedV l J')):WOp P o st K:=by
  intro rd a w e h next Q hnext
  obtain ⟨vals,hvals⟩:=Option.isSome_iff_exists.1 hp
  obtain ⟨m19,hm19⟩:=Option.isSome_iff_exists.1 (show (e.get 19999).isSome=true by rw [h.sim.dom,hobj]; rfl)
  have hE:ExtOk w e m19 l J:=h.sim.obj 19999 _ m19 hobj hm19
  have hrf:=h.ev f
  rw [hf] at hrf
  have hfv:a.eval f = .func (.yield l) #[] #[]:=by
    generalize a.eval f=vf at hrf ⊢
    cases hrf with
    | data hd=>cases hd
    | yld _ m b hm hb =>
      rw [hm19] at hm; cases hm
      rw [hE.blk] at hb; cases hb; rfl
    | yldX _ m hm hg b =>
      rw [hm19] at hm; cases hm
      have:=hE.blk; simp [hg.1] at this
  have hav:args.map a.eval=vals.toArray:=by
    have:args.toList.map a.eval=vals:=by
      refine AV.pvL_eq xs hvals (us:=args.toList.map a.eval) (by rw [← hx]; simp) (w:=w) (e:=e) fun i x u hi hu=>?_
      rw [← hx,List.getElem?_map] at hi
      rw [List.getElem?_map] at hu
      cases hai:args.toList[i]? with
      | none=>rw [hai] at hi; cases hi
      | some y=>rw [hai] at hi hu; cases hi; cases hu; exact h.ev y
    exact Array.ext' (by simpa using this)
  obtain ⟨fn,tmps,assign,body,hyr,hround⟩:=hy vals hvals w m19.has hE.holds hE.lt (.inl hE.blk)
  refine upon_yield ho hfv (by rw [hav]; exact hyr) (hround.mono ?_)
  rintro en w' ⟨t,J',S',rfl,hR,hJF,hJ',hst,hSl,hSlt,hSs,k1,k2,k3,k4,k5⟩
  let m' : Mta:={ m19 with more:=S' }
  have hhas:∀ c,m'.has c↔S' c:=fun c=>⟨fun hc=>by
    rcases hc with hc | hc
    · have:some l=some c:=by rw [← hE.blk]; exact hc
      cases this; exact hSl
    · exact hc,fun hc=>.inr hc⟩
  have hhasF:m'.has=S':=funext fun c=>propext (hhas c)
  let e' : Env:={ e with get:=fun j=>if j=19999 then some m' else e.get j }
  have hget:∀ j,e'.get j=if j=19999 then some m' else e.get j:=fun _=>rfl
  have hnotS:∀ j mj c,e.get j=some mj→mj.has c→j≠19999→¬ m19.has c:=fun j mj c hj hc hne hc'=>hne (h.sim.inj j 19999 mj m19 c hj hm19 hc hc')
  have hoth:∀ j mj c,e.get j=some mj→mj.has c→j≠19999→w'.heap[c]?=w.heap[c]?:=fun j mj c hj hc hne=>k5 c (h.sim.blk_lt hj hc) (hnotS j mj c hj hc hne)
  have hfr:Fr w e w' e':=by
    refine ⟨k1,k2,k3,k4,fun c hc hno=>k5 c hc (fun hS=>hno ⟨19999,m19,hm19,hS⟩),fun c ho hc=>?_,rfl,⟨fun id i1 i2=>?_,fun m hm=>?_⟩⟩
    · obtain ⟨j,mj,hj,hm⟩:=ho
      rw [hget] at hj
      split at hj
      · cases hj
        exact ⟨19999,m19,hm19,hSs c ((hhas c).1 hm) hc⟩
      · exact ⟨j,mj,hj,hm⟩
    · rw [hget,if_neg (by omega)]
    · rw [hm19] at hm; cases hm
      exact ⟨m',by rw [hget,if_pos rfl],rfl,rfl,rfl,rfl⟩
  have hT:Turns w e w' e' (fun x=>x):=by
    intro y v hy
    refine hy.embed (fun j mj hj hmj=>?_) hfr.q
    rw [hget]
    by_cases h5:j=19999
    · rw [if_pos h5]; subst h5; rw [hm19] at hmj; cases hmj; exact ⟨m',rfl,rfl,rfl,rfl,rfl⟩
    · rw [if_neg h5]; exact ⟨mj,hmj,mj.same_refl⟩
  refine hnext (.val (.bool t)) (st.yieldedV l J') (.bool t) w' e' (hK t J' hR) ⟨⟨fun j=>?_,fun i j mi mj c hi hj hc hc'=>?_,fun j o' mj ho' hmj=>?_,fun c hc=>?_,fun c hc=>h.sim.new c (Nat.le_trans k4 hc)⟩,h.defers.fr hfr,h.size,fun s y hy=>?_⟩ hfr (.data (.val _))
  · show _=(look j (upd 19999 (.ext l J') st.objs)).isSome
    rw [look_upd,hget]
    by_cases h5:19999=j
    · subst h5; simp
    · rw [if_neg h5,if_neg (Ne.symm h5)]; exact h.sim.dom j
  · rw [hget] at hi hj
    split at hi <;> split at hj
    · rename_i h5 h6; rw [h5,h6]
    · rename_i h5 h6
      cases hi
      exact absurd (hSs c ((hhas c).1 hc) (h.sim.blk_lt hj hc')) (hnotS j mj c hj hc' h6)
    · rename_i h5 h6
      cases hj
      exact absurd (hSs c ((hhas c).1 hc') (h.sim.blk_lt hi hc)) (hnotS i mi c hi hc h5)
    · exact h.sim.inj i j mi mj c hi hj hc hc'
  · have ho' : look j (upd 19999 (.ext l J') st.objs)=some o':=ho'
    rw [look_upd] at ho'
    rw [hget] at hmj
    by_cases h5:19999=j
    · subst h5
      rw [if_pos rfl] at ho' hmj
      cases ho'; cases hmj
      exact ⟨hE.blk,fun c hc=>hSlt c ((hhas c).1 hc),by rw [hhasF]; exact hJ',fun c hF=>by rw [hJF] at hF; obtain ⟨k8,k9⟩:=hE.fz c hF; exact ⟨k8.of_same (hfr.q c k9 k8.lt).1,(hfr.q c k9 k8.lt).2⟩,hst⟩
    · rw [if_neg h5] at ho'; rw [if_neg (Ne.symm h5)] at hmj
      have:=hT.obj (fun _ h=>h) hfr.q (h.sim.obj j o' mj ho' hmj) k4 ⟨k1,k2,k3⟩ (fun c hc=>hoth j mj c hmj hc (Ne.symm h5))
      rwa [Obj.map_self] at this
  · obtain ⟨j,mj,hj,hc'⟩:=hc
    rw [hget] at hj
    split at hj
    · cases hj
      have hS:=(hhas c).1 hc'
      rcases Nat.lt_or_ge c w.heap.size with h5 | h5
      · exact h.sim.prok c ⟨19999,m19,hm19,hSs c hS h5⟩
      · exact h.sim.new c h5
    · exact h.sim.prok c ⟨j,mj,hj,hc'⟩
  · obtain ⟨v,hv,hr⟩:=h.tmp s y hy
    exact ⟨v,hv,hT _ _ hr⟩
theorem WOps.yieldV {ops rest:List Oper} {K:St→Prop} {o:Oper} {f:Operand} {args:Array Operand} {tys:Array TypeId} (ho:o.op = .call { callee:=.value f,args,argTypes:=tys }) {st:St} (hgd:o.guard=none) (hd:dstOk o st=true) {l:Nat} {J J1:Fgn} {xs:List AV} {t0:Bool}
    (hf:st.ev f = .yld 19999) (hobj:look 19999 st.objs=some (.ext l J)) (hx:args.toList.map st.ev=xs) (hp:(AV.pvL xs).isSome=true) (hy:YieldV P l J xs (fun t J'=>t=t0∧J'=J1))
    (hK:WOps P ops K rest ((st.yieldedV l J1).put o.dst (.val (.bool t0)))):WOps P ops K (o :: rest) st:=by
  refine ⟨hd,true,by simp [wantedA,hgd], ?_⟩
  simp only [if_true]
  exact WOp.yieldV ho hf hobj hx hp hy fun t J' ⟨h1,h2⟩=>by subst h1; subst h2; exact hK
end
attribute [simp] St.yieldedV AV.pv AV.pvL
end Go.Sim
namespace Go.Sim
open Go.RowKit
section
variable {P:Program} {Γ:TypeId→Option TI}
def setPs:List Nat→List AV→List (Nat×AV)→List (Nat×AV)
  | p :: ps,x :: xs,tm=>setPs ps xs (upd p x tm)
  | _,_,tm=>tm
theorem setPs_rd {w:World} {e:Env}:∀ (ps:List Nat) (xs:List AV) (vs:List Value) (tm:List (Nat×AV)) (A:Array Value) (nt:Nat),A.size=nt→(∀ p∈ps,p < nt)→vs.length=xs.length→(∀ (i:Nat) (x:AV) (u:Value),xs[i]?=some x→vs[i]?=some u→Rd w e x u) →
    (∀ t x,look t tm=some x→∃ v,A[t]?=some v∧Rd w e x v) →
    ((ps.zip vs).foldl (fun tmps (t,a)=>tmps.setIfInBounds t a) A).size=nt∧∀ t x,look t (setPs ps xs tm)=some x→∃ v,((ps.zip vs).foldl (fun tmps (t,a)=>tmps.setIfInBounds t a) A)[t]?=some v∧Rd w e x v
  | [],xs,vs,tm,A,nt,hA,hp,hl,hr,ht=>by simp only [setPs,List.zip_nil_left,List.foldl_nil]; exact ⟨hA,ht⟩
  | p :: ps,[],vs,tm,A,nt,hA,hp,hl,hr,ht=>by
    obtain rfl:vs=[]:=List.length_eq_zero_iff.1 hl
    simp only [setPs,List.zip_nil_right,List.foldl_nil]; exact ⟨hA,ht⟩
  | p :: ps,x :: xs,[],tm,A,nt,hA,hp,hl,hr,ht=>by simp at hl
  | p :: ps, x :: xs, v :: vs, tm, A, nt, hA, hp, hl, hr, ht => by
    simp only [setPs,List.zip_cons_cons,List.foldl_cons]
    refine setPs_rd ps xs vs _ _ nt (by simpa using hA) (fun q hq=>hp q (List.mem_cons_of_mem _ hq)) (by simpa using hl) (fun i y u hy hu=>hr (i + 1) y u (by simpa using hy) (by simpa using hu)) fun t y hy=>?_
    rw [look_upd] at hy
    have hpn:=hp p List.mem_cons_self
    by_cases h:p=t
    · subst h
      rw [if_pos rfl] at hy; cases hy
      exact ⟨v,by simp [Array.getElem?_setIfInBounds,hA,hpn],hr 0 x v rfl rfl⟩
    · rw [if_neg h] at hy
      obtain ⟨u,h1,h2⟩:=ht t y hy
      exact ⟨u,by rw [Array.getElem?_setIfInBounds,if_neg h]; exact h1,h2⟩
def jumpy:Exit→Bool
  | .ret=>true
  | .exit _=>true
  | .goto _=>true
  | _=>false
def codeOf:Exit→Code
  | .exit id=>.exit id
  | .goto t=>.goto t
  | _=>.ret
def RoundV (nt:Nat) (objsN:List (Nat×Obj)) (z:Option (Exit×(List (Nat×Obj)→Prop))) (x:Exit) (s:St):Prop:=
  match z with
  | none=>x = .normal∧Le s ⟨nt,[],objsN⟩
  | some (y,PX)=>x=y∧jumpy y=true∧∃ oX,PX oX∧Le s ⟨nt,[],oX⟩
def endJ (F:Nat→Prop) (R:LoopState→Option Code→List (Nat×Obj)→World→(Nat→Prop)→Prop) (objsN:List (Nat×Obj)) (z:Option (Exit×(List (Nat×Obj)→Prop))):Fgn:=
  match z with
  | none=>⟨F,R .ready none objsN⟩
  | some (y,PX)=>⟨F,fun w S=>∃ oX,PX oX∧R .done (some (codeOf y)) oX w S⟩
theorem RF.yieldV {nt : Nat} {tm : List (Nat × AV)} {qs : List (Nat × Nat)} {tmps : Array Value} {w1 : World} {e1 : Env} {O F : Nat → Prop} {l D : Nat} {fn : FuncId} {params : List Nat} {assign body : Code} {objsR objsN : List (Nat × Obj)} {z : Option (Exit × (List (Nat × Obj) → Prop))} {xs : List AV}
    (hnew1:∀ b,w1.heap.size≤b→e1.pr b) (hp:(params.all fun p=>decide (p < nt))=true) (hxl:xs.length=params.length) (hmen:∀ t x,look t tm=some x→∀ j,x.men j=true→10000≤j∧j < 15000)
    {rec0:LoopState→Option Code→Loop} (hrec0:rec0=fun s pe=>{ state:=s,pending:=pe,fn,tmps,params:=params.toArray,assign,body,defers:=D })
    (hround:W (M:=anyMode) P assign ⟨nt,setPs params xs tm,objsR⟩ (fun x s=>x = .normal∧W (M:=anyMode) P body s (RoundV nt objsN z))) :
    YieldV P l ⟨F,fun w S=>∃ e,RF nt tm qs tmps w1 e1 O F l D (rec0 .ready none) objsR w S e⟩ xs
      (fun t J'=>t=z.isNone∧J'=endJ F (fun st pe ob=>fun w S=>∃ e,RF nt tm qs tmps w1 e1 O F l D (rec0 st pe) ob w S e) objsN z):=by
  rintro vals hvals w S ⟨e,h⟩ hSlt hSl
  have hllt:l < w.heap.size:=(Array.getElem?_eq_some_iff.1 h.hrec).1
  have hDlt:D < w.heap.size:=(Array.getElem?_eq_some_iff.1 h.dfr).1
  refine ⟨fn,(params.zip vals).foldl (fun tmps (t,a)=>tmps.setIfInBounds t a) tmps,assign,body, ?_, ?_⟩
  · have:=run_yield (P:=P) (args:=vals.toArray) h.hrec (by rw [hrec0]; have:=(AV.pvL_rd xs hvals).1; simp; omega)
    rw [this,hrec0]
    simp
  have hcr:Conc ⟨nt,setPs params xs tm,objsR⟩ { tmps:=(params.zip vals).foldl (fun tmps (t,a)=>tmps.setIfInBounds t a) tmps,defers:=[] } w e:=by
    obtain ⟨k1,k2⟩:=setPs_rd (w:=w) (e:=e) params xs vals tm tmps nt h.conc.size (by simpa using hp) (AV.pvL_rd xs hvals).1 (fun i x u hx hu=>(AV.pvL_rd xs hvals).2 i x u hx hu w e) h.conc.tmp
    exact ⟨h.conc.sim,Marks.nil h.conc.defers.1.2,k1,k2⟩
  have hnl:¬ e.owned l:=h.nl
  have hnD:¬ e.owned D:=h.nD
  refine roundIn_of_wpIn (F:=Fence.wide) trivial ?_
  have hA:=hround (some l) _ w e hcr
  refine wpIn_mono hA ?_
  rintro x a' w' ⟨s,e',c1,f1,rfl,hW⟩
  have hrec1:w'.heap[l]?=some (.loop (rec0 .ready none)):=by rw [f1.blk l hllt hnl]; exact h.hrec
  have hnl1:¬ e'.owned l:=fun ho=>hnl (f1.own l ho hllt)
  have hnD1:¬ e'.owned D:=fun ho=>hnD (f1.own D ho hDlt)
  have hlw' : l < w'.heap.size:=(Array.getElem?_eq_some_iff.1 hrec1).1
  obtain ⟨c2,t2⟩:=c1.putLoop hrec1 hnl1 { rec0 .ready none with state:=.busy }
  refine ⟨_,run_beginRound hrec1 (by rw [hrec0]), ?_⟩
  generalize hw2:w'.putObj l (.loop { rec0 .ready none with state:=.busy })=w2 at c2 t2
  have hw2l:w2.heap[l]?=some (.loop { rec0 .ready none with state:=.busy }):=by rw [← hw2]; exact World.putObj_heap_same hlw'
  have hw2o:∀ b,b≠l→w2.heap[b]?=w'.heap[b]?:=fun b hb=>by rw [← hw2]; exact World.putObj_heap_other hb
  have hw2s:w2.heap.size=w'.heap.size:=by rw [← hw2]; simp
  have hw2w:w2.os=w'.os∧w2.tape=w'.tape∧w2.output=w'.output:=by rw [← hw2]; exact ⟨rfl,rfl,rfl⟩
  refine wpIn_mono (hW (some l) a' w2 e' c2) ?_
  have fin:∀ (s3:St) (a3:Act) (w3:World) (e3:Env) (objs' : List (Nat×Obj)) (jump:Option Code),Conc s3 a3 w3 e3→Fr w2 e' w3 e3→Le s3 ⟨nt,[],objs'⟩ →
      (Instr.endRound l jump).run P w3 = .ok (.bool jump.isNone) (w3.putObj l (.loop (rec0 (if jump.isNone then .ready else .done) jump))) ∧
      ∃ S', (∃ e4, RF nt tm qs tmps w1 e1 O F l D (rec0 (if jump.isNone then .ready else .done) jump) objs' (w3.putObj l (.loop (rec0 (if jump.isNone then .ready else .done) jump))) S' e4) ∧ S' l ∧
        (∀ b,S' b→b < (w3.putObj l (.loop (rec0 (if jump.isNone then .ready else .done) jump))).heap.size)∧(∀ b,S' b→b < w.heap.size→S b)∧(w3.os=w.os∧w3.tape=w.tape∧w3.output=w.output)∧w.heap.size≤w3.heap.size ∧
        ∀ b,b < w.heap.size→¬ S b→w3.heap[b]?=w.heap[b]?:=by
    intro s3 a3 w3 e3 objs' jump c3 f3 hle
    obtain ⟨e4,c4,f4⟩:=hle a3 w3 e3 c3
    have hl3:w3.heap[l]?=some (.loop { rec0 .ready none with state:=.busy }):=by rw [f3.blk l (by rw [hw2s]; exact hlw') hnl1]; exact hw2l
    have hnl3:¬ e4.owned l:=fun ho=>hnl1 (f3.own l (f4.own l ho (Array.getElem?_eq_some_iff.1 hl3).1) (by rw [hw2s]; exact hlw'))
    have hD' : D < w'.heap.size:=Nat.lt_of_lt_of_le hDlt f1.size
    have hlD:D≠l:=fun he=>by have h1:=h.dfr; rw [he,h.hrec] at h1; cases h1
    have hD3:w3.heap[D]?=some (.deferred (some [])):=by
      rw [f3.blk D (by rw [hw2s]; exact hD') hnD1,hw2o D hlD,f1.blk D hDlt hnD]; exact h.dfr
    have hnD3:¬ e4.owned D:=fun ho=>hnD1 (f3.own D (f4.own D ho (Array.getElem?_eq_some_iff.1 hD3).1) (by rw [hw2s]; exact hD'))
    have hend:=run_endRound (P:=P) jump hl3
    have hreq:({ { rec0 .ready none with state:=.busy } with state:=if jump.isNone then .ready else .done,pending:=jump }:Loop)=rec0 (if jump.isNone then .ready else .done) jump:=by rw [hrec0]
    rw [hreq] at hend
    have hsz3:w.heap.size≤w3.heap.size:=Nat.le_trans f1.size (by rw [← hw2s]; exact f3.size)
    have hw:w3.os=w.os∧w3.tape=w.tape∧w3.output=w.output:=⟨f3.os.trans (hw2w.1.trans f1.os),f3.tape.trans (hw2w.2.1.trans f1.tape),f3.output.trans (hw2w.2.2.trans f1.output)⟩
    have hkeep:∀ b,b < w.heap.size→b≠l→¬ e.owned b→w3.heap[b]?=w.heap[b]?:=fun b hb hbl hno=>by
      have hb' : b < w'.heap.size:=Nat.lt_of_lt_of_le hb f1.size
      rw [f3.blk b (by rw [hw2s]; exact hb') (fun ho=>hno (f1.own b ho hb)),hw2o b hbl,f1.blk b hb hno]
    have hown4:∀ b,e4.owned b→b < w.heap.size→e.owned b:=fun b ho hb =>
      f1.own b (f3.own b (f4.own b ho (Nat.lt_of_lt_of_le hb hsz3)) (by rw [hw2s]; exact Nat.lt_of_lt_of_le hb f1.size)) hb
    have hpr4:e4.pr=e.pr:=f4.pr.trans (f3.pr.trans f1.pr)
    obtain ⟨c5,t5⟩:=c4.putLoop hl3 hnl3 (rec0 (if jump.isNone then .ready else .done) jump)
    refine ⟨hend,fun b=>b < w3.heap.size∧(S b∨w.heap.size≤b),⟨e4,⟨⟨c5.sim,c5.defers.1 |> fun h=>Marks.nil h.2,h.conc.size,fun t x hx=>?_⟩,hw.1.trans h.os,hw.2.1.trans h.tape,hw.2.2.trans h.output,by simpa using Nat.le_trans h.size hsz3,fun b hb hn=>?_,fun b ho hb=>?_,fun b hb hn=>?_,h.hO,h.hF,fun b hb hp=>?_,fun b hp=>?_, ?_, ?_, ?_, ?_,hnl3,hnD3,h.hl,h.hD,fun n n1 n2=>?_⟩⟩, ?_,fun b hb=>by simpa using hb.1,fun b hb hlt=>?_,hw,hsz3,fun b hb hS=>hkeep b hb (fun he=>hS (he ▸ hSl)) (fun ho=>?_)⟩
    · obtain ⟨v,hv,hr⟩:=h.conc.tmp t x hx
      have hpin:∀ {wa:World} {ea:Env} {wb:World} {eb:Env},Fr wa ea wb eb→∀ j,x.men j=true→eb.get j=ea.get j:=fun hf j hj=>hf.pin j (hmen t x hx j hj).1 (hmen t x hx j hj).2
      have r1:Rd w e x v:=hr
      exact ⟨v,hv,t5 _ _ (((t2 _ _ (r1.fr f1 (hpin f1))).fr f3 (hpin f3)).fr f4 (hpin f4))⟩
    · have hbw:b < w.heap.size:=Nat.lt_of_lt_of_le hb h.size
      rw [World.putObj_heap_other (by have:=h.hl; omega),hkeep b hbw (by have:=h.hl; omega) (fun ho=>hn (h.own b ho hb))]
      exact h.blk b hb hn
    · exact h.own b (hown4 b ho (Nat.lt_of_lt_of_le hb h.size)) hb
    · exact (h.cov b hb hn).imp (fun hS=>⟨Nat.lt_of_lt_of_le (Nat.lt_of_lt_of_le hb h.size) hsz3,.inl hS⟩) id
    · rw [hpr4] at hp
      have hb' : b < w3.heap.size:=by simpa using hb
      rcases Nat.lt_or_ge b w.heap.size with h1 | h1
      · exact (h.prS b h1 hp).imp (fun hS=>⟨hb',.inl hS⟩) id
      · exact .inl ⟨hb',.inr h1⟩
    · rw [hpr4] at hp
      exact h.pr1 b hp
    · exact World.putObj_heap_same (Array.getElem?_eq_some_iff.1 hl3).1
    · rw [World.putObj_heap_other hlD]; exact hD3
    · exact ⟨(Array.getElem?_eq_some_iff.1 hl3).1,.inl hSl⟩
    · exact ⟨(Array.getElem?_eq_some_iff.1 hD3).1,.inl h.SD⟩
    · rw [f4.pin n n1 n2,f3.pin n n1 n2,f1.pin n n1 n2]; exact h.pin n n1 n2
    · exact ⟨(Array.getElem?_eq_some_iff.1 hl3).1,.inl hSl⟩
    · rcases hb.2 with h1 | h1
      · exact h1
      · omega
    · exact (h.prS b hb (h.conc.sim.prok b ho)).elim hS fun hf=>(h.hF b hf).2 (h.own b ho (h.hF b hf).1)
  rintro x3 a3 w3 ⟨s3,e3,c3,f3,hq⟩
  cases z with
  | none =>
    obtain ⟨hx3,hle⟩:=hq
    subst hx3
    obtain ⟨q1,S',q2,q3,q4,q5,q6,q7,q8⟩:=fin s3 a3 w3 e3 objsN none c3 f3 hle
    refine ⟨_,_,q1,true,_,S',rfl,⟨rfl,rfl⟩,rfl,q2,RF.stab hnew1,q3,q4,q5,q6.1,q6.2.1,q6.2.2,by simpa using q7,fun b hb hS=>?_⟩
    rw [World.putObj_heap_other (show b≠l from fun he=>hS (by subst he; exact hSl))]; exact q8 b hb hS
  | some zz =>
    obtain ⟨y,PX⟩:=zz
    obtain ⟨hx3,hj,oX,hPX,hle⟩:=hq
    have hstabX:∀ pe,Stab ⟨F,fun w S=>∃ oX,PX oX∧∃ e,RF nt tm qs tmps w1 e1 O F l D (rec0 .done pe) oX w S e⟩:=fun pe w w' S ⟨o1,p1,p2⟩ k1 k2 k3 k4 k5=>⟨o1,p1,RF.stab hnew1 w w' S p2 k1 k2 k3 k4 k5⟩
    subst hx3
    cases x3 with
    | normal=>cases hj
    | ret =>
      obtain ⟨q1,S',q2,q3,q4,q5,q6,q7,q8⟩:=fin s3 a3 w3 e3 oX (some .ret) c3 f3 hle
      refine ⟨_,_,q1,false,_,S',rfl,⟨rfl,rfl⟩,rfl,⟨oX,hPX,q2⟩,hstabX _,q3,q4,q5,q6.1,q6.2.1,q6.2.2,by simpa using q7,fun b hb hS=>?_⟩
      rw [World.putObj_heap_other (show b≠l from fun he=>hS (by subst he; exact hSl))]; exact q8 b hb hS
    | exit id =>
      obtain ⟨q1,S',q2,q3,q4,q5,q6,q7,q8⟩:=fin s3 a3 w3 e3 oX (some (.exit id)) c3 f3 hle
      refine ⟨_,_,q1,false,_,S',rfl,⟨rfl,rfl⟩,rfl,⟨oX,hPX,q2⟩,hstabX _,q3,q4,q5,q6.1,q6.2.1,q6.2.2,by simpa using q7,fun b hb hS=>?_⟩
      rw [World.putObj_heap_other (show b≠l from fun he=>hS (by subst he; exact hSl))]; exact q8 b hb hS
    | goto t =>
      obtain ⟨q1,S',q2,q3,q4,q5,q6,q7,q8⟩:=fin s3 a3 w3 e3 oX (some (.goto t)) c3 f3 hle
      refine ⟨_,_,q1,false,_,S',rfl,⟨rfl,rfl⟩,rfl,⟨oX,hPX,q2⟩,hstabX _,q3,q4,q5,q6.1,q6.2.1,q6.2.2,by simpa using q7,fun b hb hS=>?_⟩
      rw [World.putObj_heap_other (show b≠l from fun he=>hS (by subst he; exact hSl))]; exact q8 b hb hS
    | panic c=>cases hj
    | outgrown=>cases hj
def endN:Option Nat→Nat→Nat
  | none,n=>n
  | some s,_=>s + 1
theorem W.rangeV {g:Operand} {params:List Nat} {assign body:Code} {st:St} {Q:Exit→St→Prop} {f:FuncId} {caps ys:List AV} (hg:st.calleeC g=some (f,caps))
    (ps qs:List (Nat×Nat)) (hpq:psOkL (ps ++ qs)=true) (hps:psOk ps=true) (hqs:psOkL qs=true) (hall:(st.objs.all fun x=>((ps ++ qs).map (·.2)).contains x.1)=true) (h199:((ps ++ qs).all fun x=>x.1 != 19999)=true)
    (hcap:capR ps caps=some ys) {os:List (Nat×Obj)} (hos:st.objsFor ps ps=some os) (hbox:(os.all fun x=>x.2.plain)=true) (oR:Nat→List (Nat×Obj)) (hoR:st.objsFor qs qs=some (oR 0)) (L:List Nat) {tm:List (Nat×AV)} (htm:st.tmpsFor qs L=some tm) (htl:looseTm qs tm=true) (hp:(params.all fun p=>decide (p < st.nt))=true)
    (ns:List (List AV)) (hns:∀ xs∈ns,xs.length=params.length) (Z:Nat→Option (Exit×(List (Nat×Obj)→Prop))) (res:Option Nat) (hres:match res with | none=>∀ k,k < ns.length→Z k=none | some s=>s < ns.length∧(Z s).isSome=true∧∀ k,k < s→Z k=none)
    (hround:∀ (k:Nat) (xs:List AV),ns[k]?=some xs→(∀ j,j < k→Z j=none)→W (M:=anyMode) P assign ⟨st.nt,setPs params xs tm,oR k⟩ (fun x s=>x = .normal∧W (M:=anyMode) P body s (RoundV st.nt (oR (k + 1)) (Z k))))
    (hcall:∀ (l:Nat) (J:Nat→Fgn),(∀ (k:Nat) (xs:List AV),ns[k]?=some xs→k < endN res ns.length→YieldV P l (J k) xs (fun t J'=>t = !decide (res=some k)∧J'=J (k + 1))) →
      ACalls P f (.yld 19999 :: ys) ((19999,.ext l (J 0)) :: os) (fun _ o=>o=(19999,.ext l (J (endN res ns.length))) :: os))
    (d:Nat) (hd:d < 1250)
    (hN:res=none→(backOk (ps ++ qs) d (os ++ oR ns.length) && looseOk (ps ++ qs) (st.killIds (newIds d (os ++ oR ns.length))).tmps && ((oR ns.length).all fun x=>(look x.1 ps).isNone) && ((st.adopt (ps ++ qs) d (os ++ oR ns.length)).objs.all fun x=>x.2.notExt))=true∧Q .normal (st.adopt (ps ++ qs) d (os ++ oR ns.length)))
    (hX:∀ s y PX,res=some s→Z s=some (y,PX)→jumpy y=true∧∀ oX,PX oX→(backOk (ps ++ qs) d (os ++ oX) && looseOk (ps ++ qs) (st.killIds (newIds d (os ++ oX))).tmps && (oX.all fun x=>(look x.1 ps).isNone) && ((st.adopt (ps ++ qs) d (os ++ oX)).objs.all fun x=>x.2.notExt))=true∧Q y (st.adopt (ps ++ qs) d (os ++ oX))) :
    W (M:=outMode) P (.rangeFunc g params.toArray assign body) st Q:=by
  generalize hobjsR:oR 0=objsR at hoR
  intro rd a w e hc
  refine wpIn_rangeFunc ?_
  intro fn _
  obtain ⟨vs,hev,hvs,hvr⟩:=callee_rd hc.view hg
  obtain ⟨rec0,hrec0⟩:∃ rec0:LoopState→Option Code→Loop,rec0=fun s pe=>{ state:=s,pending:=pe,fn,tmps:=a.tmps,params:=params.toArray,assign,body,defers:=w.heap.size }:=⟨_,rfl⟩
  obtain ⟨w2,hw2⟩:∃ w2,(w.alloc (.deferred (some []))).alloc (.loop (rec0 .ready none))=w2:=⟨_,rfl⟩
  have hL2:w2.heap[w.heap.size + 1]?=some (.loop (rec0 .ready none)):=by
    rw [← hw2]; have:=World.alloc_heap_new (w.alloc (.deferred (some []))) (.loop (rec0 .ready none)); rwa [World.size_alloc] at this
  have hD2:w2.heap[w.heap.size]?=some (.deferred (some [])):=by
    rw [← hw2]; exact (heap_alloc_old _ _ _ (by simp)).trans (World.alloc_heap_new w _)
  have hs2:w2.heap.size=w.heap.size + 2:=by rw [← hw2]; simp
  have ho2:∀ b,b < w.heap.size→w2.heap[b]?=w.heap[b]?:=fun b hb=>by
    rw [← hw2,heap_alloc_old _ _ _ (by simp; omega),heap_alloc_old _ _ _ hb]
  have hww:w2.os=w.os∧w2.tape=w.tape∧w2.output=w.output:=by rw [← hw2]; exact ⟨rfl,rfl,rfl⟩
  have hlt:∀ b,e.owned b→b < w.heap.size:=fun b ⟨id,m,hm,hb⟩=>hc.sim.blk_lt hm hb
  have hsubO:∀ b,e.subOwn ps b→e.owned b:=fun b hb=>subOwn_owned hb
  let F0:Nat→Prop:=fun b=>e.q b∧CellIn w b
  have hF0:∀ b,F0 b→b < w.heap.size∧¬ e.owned b:=fun b hb=>⟨hb.2.lt,hb.1.2⟩
  let S0:Nat→Prop:=fun b=>b < w2.heap.size∧¬ e.subOwn ps b∧¬ F0 b
  let eJ0:Env:={ get:=fun n=>(look n qs).bind e.get,pr:=fun b=>(e.pr b∧b < w.heap.size∧¬ e.subOwn ps b)∨w2.heap.size≤b,bs:=0 }
  have hgJ:∀ n id,look n qs=some id→eJ0.get n=e.get id:=fun n id hl=>by show (look n qs).bind e.get=_; rw [hl]; rfl
  have hoJ:∀ b,eJ0.owned b→e.owned b:=by
    rintro b ⟨n,m,hm,hb⟩
    simp only [eJ0,Option.bind_eq_some_iff] at hm
    obtain ⟨id,_,hm⟩:=hm
    exact ⟨id,m,hm,hb⟩
  have hdis:∀ n,(look n ps).isSome=true→look n qs=none:=fun n hn=>by
    cases hl:look n qs with
    | none=>rfl
    | some id =>
      exfalso
      have h1:=psOkL_1 hpq
      obtain ⟨id',hl'⟩:=Option.isSome_iff_exists.1 hn
      have aux:∀ l:List Nat,∀ l' : List Nat,distinct (l ++ l')=true→∀ x,x∈l→x∈l'→False:=by
        intro l
        induction l with
        | nil=>intro l' _ x hx; simp at hx
        | cons y ys ih =>
          intro l' hd x hx hx'
          simp only [List.cons_append,distinct,Bool.and_eq_true,Bool.not_eq_true',List.contains_eq_mem,decide_eq_false_iff_not,List.mem_append,not_or] at hd
          rcases List.mem_cons.1 hx with rfl | hx
          · exact hd.1.2 hx'
          · exact ih l' hd.2 x hx hx'
      rw [List.map_append] at h1
      exact aux _ _ h1 n (List.mem_map.2 ⟨_,look_mem hl',rfl⟩) (List.mem_map.2 ⟨_,look_mem hl,rfl⟩)
  have hdis2:∀ n n' id,look n ps=some id→look n' qs=some id→False:=fun n n' id h1 h2=>by
    have h3:=psOkL_2 hpq
    have aux:∀ l:List Nat,∀ l' : List Nat,distinct (l ++ l')=true→∀ x,x∈l→x∈l'→False:=by
      intro l
      induction l with
      | nil=>intro l' _ x hx; simp at hx
      | cons y ys ih =>
        intro l' hd x hx hx'
        simp only [List.cons_append,distinct,Bool.and_eq_true,Bool.not_eq_true',List.contains_eq_mem,decide_eq_false_iff_not,List.mem_append,not_or] at hd
        rcases List.mem_cons.1 hx with rfl | hx
        · exact hd.1.2 hx'
        · exact ih l' hd.2 x hx hx'
    rw [List.map_append] at h3
    exact aux _ _ h3 id (List.mem_map.2 ⟨_,look_mem h1,rfl⟩) (List.mem_map.2 ⟨_,look_mem h2,rfl⟩)
  have hsubJ:∀ b,eJ0.owned b→¬ e.subOwn ps b:=by
    rintro b ⟨n,m,hm,hb⟩ ⟨n',m',hm',hb'⟩
    simp only [eJ0,Option.bind_eq_some_iff] at hm
    simp only [Option.bind_eq_some_iff] at hm'
    obtain ⟨id,q1,q2⟩:=hm
    obtain ⟨id',q3,q4⟩:=hm'
    have:=hc.sim.inj id id' m m' b q2 q4 hb hb'
    subst this
    exact hdis2 n' n id q3 q1
  have hqJ:∀ b,e.q b→b < w.heap.size→w2.heap[b]?=w.heap[b]?∧eJ0.q b:=fun b hb hb'=>⟨ho2 b hb',.inl ⟨hb.1,hb',fun h=>hb.2 (hsubO b h)⟩,fun ho=>hb.2 (hoJ b ho)⟩
  have hRF0:RF st.nt tm qs a.tmps w e (e.subOwn ps) F0 (w.heap.size + 1) w.heap.size (rec0 .ready none) objsR w2 S0 eJ0:=by
    refine ⟨⟨⟨fun n=>?_,fun i j m m' x hi hj hbi hbj=>?_,handed_obj hc.sim hqs hoR hgJ hqJ (by omega) hww (fun b hb=>ho2 b (hlt b hb)),fun b hb=>.inl ⟨hc.sim.prok b (hoJ b hb),hlt b (hoJ b hb),hsubJ b hb⟩,fun b hb=>.inr hb⟩,Marks.nil (Nat.zero_le _),hc.size,fun t x hx=>?_⟩,
      hww.1,hww.2.1,hww.2.2,by omega,fun b hb _=>ho2 b hb,fun b hb _=>hoJ b hb,fun b hb hn=>(Classical.em (F0 b)).elim .inr fun hf=>.inl ⟨by omega,hn,hf⟩,hsubO,hF0,fun b hb hp=>?_,fun b hp=>?_,hL2,hD2,⟨by omega,fun h=>by have:=hlt _ (hsubO _ h); omega,fun h=>by have:=hF0 _ h; omega⟩,⟨by omega,fun h=>by have:=hlt _ (hsubO _ h); omega,fun h=>by have:=hF0 _ h; omega⟩,
      fun h=>by have:=hlt _ (hoJ _ h); omega,fun h=>by have:=hlt _ (hoJ _ h); omega,by omega,Nat.le_refl _,fun n _ _=>rfl⟩
    · rw [(objsFor_get hoR n).1]
      show ((look n qs).bind e.get).isSome=_
      rw [Option.isSome_map]
      cases look n qs with
      | none=>rfl
      | some id=>exact hc.sim.dom id
    · simp only [eJ0,Option.bind_eq_some_iff] at hi hj
      obtain ⟨i',p1,p2⟩:=hi
      obtain ⟨j',q1,q2⟩:=hj
      have:=hc.sim.inj i' j' m m' x p2 q2 hbi hbj
      subst this
      have e1:=look_findOld (psOkL_2 hqs) p1
      rw [look_findOld (psOkL_2 hqs) q1] at e1
      cases e1; rfl
    · obtain ⟨y,hy,hny,rfl⟩:=tmpsFor_get htm t x hx
      obtain ⟨v,hv,hr⟩:=hc.tmp t y hy
      refine ⟨v,hv,hr.ren _ (fun id m hid hm=>?_) (.inl hqJ)⟩
      obtain ⟨n',h1⟩:=findOld_mem (AV.named_men y hny hid)
      exact ⟨m,by rw [show expName qs id=n' from by simp [expName,h1],hgJ n' id (findOld_look (psOkL_1 hqs) h1)]; exact hm,m.same_refl⟩
    · rcases hp with ⟨_,h1,h2⟩ | h1
      · exact (Classical.em (F0 b)).elim .inr fun hf=>.inl ⟨hb,h2,hf⟩
      · omega
    · rcases hp with ⟨h1,_⟩ | h1
      · exact h1
      · exact hc.sim.new b (by omega)
  have hmen:∀ t x,look t tm=some x→∀ j,x.men j=true→10000≤j∧j < 15000:=by
    intro t x hx j hj
    obtain ⟨y,hy,hny,rfl⟩:=tmpsFor_get htm t x hx
    obtain ⟨i,h1,rfl⟩:=AV.men_ren y hj
    obtain ⟨n',h2⟩:=findOld_mem (AV.named_men y hny h1)
    have h3:=findOld_look (psOkL_1 hqs) h2
    have hen:expName qs i=n':=by simp [expName,h2]
    rw [hen] at hj ⊢
    rcases psOkL_3 hqs h3 with h4 | h4 | h4
    · exact h4
    · have:=List.all_eq_true.1 h199 (n',i) (List.mem_append_right _ (look_mem h3))
      simp [h4.1] at this
    · have h5:=List.all_eq_true.1 htl (n',i) (look_mem h3)
      simp only [Bool.or_eq_true,decide_eq_true_eq,beq_iff_eq,List.all_eq_true] at h5
      rcases h5 with (h5 | h5) | h5
      · omega
      · omega
      · have:=h5 _ (look_mem hx)
        simp [hj] at this
  let RR:LoopState→Option Code→List (Nat×Obj)→World→(Nat→Prop)→Prop:=fun stt pe ob w' S=>∃ e',RF st.nt tm qs a.tmps w e (e.subOwn ps) F0 (w.heap.size + 1) w.heap.size (rec0 stt pe) ob w' S e'
  let JJ:Nat→Fgn:=fun k=>match k with
    | 0=>⟨F0,RR .ready none objsR⟩
    | k + 1=>endJ F0 RR (oR (k + 1)) (Z k)
  have hJr:∀ k,(∀ j,j < k→Z j=none)→JJ k=⟨F0,RR .ready none (oR k)⟩:=fun k hk=>by
    cases k with
    | zero=>show (⟨F0,RR .ready none objsR⟩:Fgn)=_; rw [hobjsR]
    | succ k=>show endJ F0 RR (oR (k + 1)) (Z k)=_; rw [hk k (by omega)]; rfl
  have hbefore:∀ k,k < endN res ns.length→∀ j,j < k→Z j=none:=fun k hk j hj=>by
    cases res with
    | none=>exact hres j (by simp only [endN] at hk; omega)
    | some s=>exact hres.2.2 j (by simp only [endN] at hk; omega)
  have hACl:=hcall (w.heap.size + 1) JJ (fun k xs hk hlt'=>by
      have hZ:=hbefore k hlt'
      have:=RF.yieldV (P:=P) (l:=w.heap.size + 1) (tmps:=a.tmps) (qs:=qs) (w1:=w) (e1:=e) (O:=e.subOwn ps) (F:=F0) hc.sim.new hp (hns xs (List.mem_of_getElem? hk)) hmen hrec0 (hround k xs hk hZ)
      rw [hJr k hZ]
      refine this.mono ?_
      rintro t J' ⟨q1,q2⟩
      refine ⟨?_,q2⟩
      rw [q1]
      cases res with
      | none=>rw [hres k (List.getElem?_eq_some_iff.1 hk).1]; rfl
      | some s =>
        by_cases h5:k=s
        · subst h5
          obtain ⟨z,hz⟩:=Option.isSome_iff_exists.1 hres.2.1
          rw [hz]; simp
        · rw [hres.2.2 k (by simp only [endN] at hlt'; omega)]
          simp; omega)
  let m19:Mta:={ blk:=some (w.heap.size + 1),cap:=0,sz:=0,more:=S0 }
  have hhas:m19.has=S0:=funext fun b=>propext ⟨fun hb=>by
    rcases hb with hb | hb
    · cases hb; exact hRF0.Sl
    · exact hb,fun hb=>.inr hb⟩
  let ec:Env:={ get:=fun n=>if n=19999 then some m19 else (look n ps).bind e.get,pr:=fun _=>True,bs:=0 }
  have hnps:look 19999 ps=none:=by
    cases hl:look 19999 ps with
    | none=>rfl
    | some id =>
      have:=List.all_eq_true.1 h199 (19999,id) (List.mem_append_left _ (look_mem hl))
      simp at this
  have hpsr:∀ n id,look n ps=some id→10000≤n∧n < 15000:=fun n id hl=>by
    rcases psOk_3 hps hl with h4 | h4
    · exact h4
    · rw [h4.1,hnps] at hl; cases hl
  have hgc:∀ n id,look n ps=some id→ec.get n=e.get id:=fun n id hl=>by
    show (if n=19999 then some m19 else (look n ps).bind e.get)=_
    rw [if_neg (by have:=hpsr n id hl; omega),hl]; rfl
  have hecq:∀ b,F0 b→ec.q b:=fun b hb=>⟨trivial,fun ⟨n,m,hm,hmb⟩=>by
    simp only [ec] at hm
    split at hm
    · cases hm; rw [hhas] at hmb; exact hmb.2.2 hb
    · simp only [Option.bind_eq_some_iff] at hm
      obtain ⟨id,_,hm⟩:=hm
      exact hb.1.2 ⟨id,m,hm,hmb⟩⟩
  have hcell2:∀ b,CellIn w2 b→CellIn w b:=fun b hb=>by
    rcases Nat.lt_or_ge b w.heap.size with h1 | h1
    · exact hb.of_same (ho2 b h1).symm
    · exfalso
      have h3:b < w2.heap.size:=hb.lt
      obtain ⟨o',v',hv'⟩:=hb
      have h2:b=w.heap.size∨b=w.heap.size + 1:=by omega
      rcases h2 with rfl | rfl
      · simp [World.cell?,hD2] at hv'
      · simp [World.cell?,hL2] at hv'
  have hsim:Sim w2 ec ((19999,.ext (w.heap.size + 1) (JJ 0)) :: os):=by
    refine ⟨fun n=>?_,fun i j m m' x hi hj hbi hbj=>?_,fun n o m ho hm=>?_,fun _ _=>trivial,fun _ _=>trivial⟩
    · simp only [ec,look]
      by_cases h1:19999=n
      · subst h1; simp
      · rw [if_neg (Ne.symm h1),if_neg h1,(objsFor_get hos n).1,Option.isSome_map]
        cases look n ps with
        | none=>rfl
        | some id=>exact hc.sim.dom id
    · simp only [ec] at hi hj
      split at hi <;> split at hj
      · rename_i h1 h2; rw [h1,h2]
      · cases hi
        simp only [Option.bind_eq_some_iff] at hj
        obtain ⟨j',q1,q2⟩:=hj
        rw [hhas] at hbi
        exact absurd ⟨j,m',by rw [q1]; exact q2,hbj⟩ hbi.2.1
      · cases hj
        simp only [Option.bind_eq_some_iff] at hi
        obtain ⟨j',q1,q2⟩:=hi
        rw [hhas] at hbj
        exact absurd ⟨i,m,by rw [q1]; exact q2,hbi⟩ hbj.2.1
      · simp only [Option.bind_eq_some_iff] at hi hj
        obtain ⟨i',p1,p2⟩:=hi
        obtain ⟨j',q1,q2⟩:=hj
        have:=hc.sim.inj i' j' m m' x p2 q2 hbi hbj
        subst this
        have e1:=look_findOld (psOk_2 hps) p1
        rw [look_findOld (psOk_2 hps) q1] at e1
        cases e1; rfl
    · simp only [look] at ho
      simp only [ec] at hm
      by_cases h1:19999=n
      · subst h1
        rw [if_pos rfl] at ho hm
        cases ho; cases hm
        exact ⟨rfl,fun b hb=>by rw [hhas] at hb; exact hb.1,by rw [hhas]; exact ⟨eJ0,hRF0⟩,fun b hb=>⟨hb.2.of_same (ho2 b (hF0 b hb).1),hecq b hb⟩,RF.stab hc.sim.new⟩
      · rw [if_neg h1] at ho; rw [if_neg (Ne.symm h1)] at hm
        have hgv:∀ n id,look n ps=some id→(e.view ps false).get n=e.get id:=fun n id hl=>by show (look n ps).bind e.get=_; rw [hl]; rfl
        have:=handed_obj hc.sim (psOk_l hps) hos hgv (fun b hb hb'=>⟨ho2 b hb',view_q hc.sim.prok hb⟩) (by omega) hww (fun b hb=>ho2 b (hlt b hb)) n o m ho hm
        refine this.moveP (List.all_eq_true.1 hbox _ (look_mem ho)) (fun _ _=>rfl) fun b hb hbc=>⟨rfl,hecq b ⟨?_,hcell2 b hbc⟩⟩
        rcases hb.1 with hp | hp
        · exact hp
        · exact absurd hp hb.2
  refine ⟨w.heap.size + 1,[{ target:=.collected w.heap.size,args:=#[] }],w2,{ target:=.fn (.func f) vs,args:=#[.func (.yield (w.heap.size + 1)) #[] #[]] },w2,f,
    #[.func (.yield (w.heap.size + 1)) #[] #[]] ++ vs,w2, ?_, ?_,fun _ _=>trivial, ?_,fun hd=>by simp [FR] at hd, ?_⟩
  · rw [← hw2,hrec0]; exact run_enterLoop_outer _ _ _ _ _
  · simp only [resolve,hev]
    simp [go_sem]
  · obtain ⟨fn',h1,h2,h3⟩:=hACl.able
    have h2' : ¬ fn'.name = "runtime.NumGoroutine" := by simpa using h2
    have h3' : ¬ fn'.body=none:=fun hb=>by rw [hb] at h3; simp at h3
    simp [invoke,go_sem,callFunc,h1,h2',h3']
  obtain ⟨hyl,hyr⟩:=capR_rd hps (w:=w) (w':=w2) hgc hcap
  refine callsIn_FR ((hACl.run w2 ec _ hsim (by simp [hvs,hyl,Nat.add_comm]) (fun i y v hy hv=>?_)).mono ?_)
  · cases i with
    | zero =>
      simp at hy; subst hy
      have hv0:v = .func (.yield (w.heap.size + 1)) #[] #[]:=by
        rw [Array.getElem?_append_left (by simp)] at hv
        simpa using hv.symm
      subst hv0
      exact .yld 19999 m19 _ (by simp [ec]) rfl
    | succ i =>
      have hy' : ys[i]?=some y:=by simpa using hy
      have hv' : vs[i]?=some v:=by
        rw [Array.getElem?_append_right (by simp)] at hv
        simpa using hv
      exact hyr i y v hy' (fun x hx=>hvr i x v hx hv')
  rintro en w3 ⟨v,r',objs',ec',rfl,rfl,hs',hf',_⟩
  obtain ⟨m',hm'⟩:=Option.isSome_iff_exists.1 (show (ec'.get 19999).isSome=true by rw [hs'.dom]; simp [look])
  have hsubA:∀ b,e.owned b→e.subOwn (ps ++ qs) b:=by
    rintro b ⟨id,m,hm,hb⟩
    have hd':=hc.sim.dom id
    rw [hm] at hd'
    obtain ⟨o,ho⟩:=look_some_mem.1 hd'.symm
    have:=List.all_eq_true.1 hall _ ho
    obtain ⟨n,hn⟩:=findOld_mem (ks:=ps ++ qs) (id:=id) (by simpa using this)
    exact ⟨n,m,by rw [findOld_look (psOkL_1 hpq) hn]; exact hm,hb⟩
  have hprA:∀ b,e.pr b→(e.view (ps ++ qs) false).pr b:=fun b hb=>by
    by_cases ho:e.owned b
    · exact .inr (hsubA b ho)
    · exact .inl ⟨hb,ho⟩
  have hlapp:∀ n,look n (ps ++ qs)=if (look n ps).isSome then look n ps else look n qs:=fun n=>by
    rw [look_append]; cases look n ps <;> rfl
  have key:∀ (stt:LoopState) (jump:Option Code) (objsJ:List (Nat×Obj)) (eJ:Env),RF st.nt tm qs a.tmps w e (e.subOwn ps) F0 (w.heap.size + 1) w.heap.size (rec0 stt jump) objsJ w3 m'.has eJ →
      (backOk (ps ++ qs) d (os ++ objsJ) && looseOk (ps ++ qs) (st.killIds (newIds d (os ++ objsJ))).tmps && (objsJ.all fun x=>(look x.1 ps).isNone) && ((st.adopt (ps ++ qs) d (os ++ objsJ)).objs.all fun x=>x.2.notExt))=true →
      ∃ e4, Conc (st.adopt (ps ++ qs) d (os ++ objsJ)) { a with defers := [{ target := .collected w.heap.size, args := #[] }] ++ a.defers } (w3.putObj (w.heap.size + 1) (.loop { rec0 stt jump with state := .exhausted })) e4 ∧
        Fr w e (w3.putObj (w.heap.size + 1) (.loop { rec0 stt jump with state:=.exhausted })) e4:=by
    intro stt jump objsJ eJ hRF hok
    simp only [Bool.and_eq_true,List.all_eq_true,Option.isNone_iff_eq_none] at hok
    obtain ⟨⟨⟨hback,hloose⟩,hkeys⟩,hnx⟩:=hok
    have hl3:=hRF.hrec
    have hll:w.heap.size + 1 < w3.heap.size:=(Array.getElem?_eq_some_iff.1 hl3).1
    obtain ⟨c4,_⟩:=hRF.conc.putLoop hl3 hRF.nl { rec0 stt jump with state:=.exhausted }
    generalize hw4:w3.putObj (w.heap.size + 1) (.loop { rec0 stt jump with state:=.exhausted })=w4 at c4 ⊢
    have h4o:∀ b,b≠w.heap.size + 1→w4.heap[b]?=w3.heap[b]?:=fun b hb=>by rw [← hw4]; exact World.putObj_heap_other hb
    have h4s:w4.heap.size=w3.heap.size:=by rw [← hw4]; simp
    have h4w:w4.os=w3.os∧w4.tape=w3.tape∧w4.output=w3.output:=by rw [← hw4]; exact ⟨rfl,rfl,rfl⟩
    let eb:Env:={ get:=fun n=>if (look n ps).isSome then ec'.get n else eJ.get n,pr:=(e.view (ps ++ qs) false).pr,bs:=e.bs }
    have hpin:∀ n id,look n ps=some id→ec'.get n=e.get id:=fun n id hl=>by
      obtain ⟨h1,h2⟩:=hpsr n id hl
      rw [hf'.pin n h1 h2,hgc n id hl]
    have hgb1:∀ n id,look n ps=some id→eb.get n=e.get id:=fun n id hl=>by
      show (if (look n ps).isSome then ec'.get n else eJ.get n)=_
      rw [hl]; exact hpin n id hl
    have hgb2:∀ n,look n ps=none→eb.get n=eJ.get n:=fun n hl=>by
      show (if (look n ps).isSome then ec'.get n else eJ.get n)=_
      rw [hl]; rfl
    have hkn:∀ n,(look n objsJ).isSome=true→look n ps=none:=fun n hn=>by
      obtain ⟨o,ho⟩:=look_some_mem.1 hn
      exact hkeys _ ho
    have hJs:∀ n m,eJ.get n=some m→look n ps=none:=fun n m hm=>hkn n (by have:=hRF.conc.sim.dom n; rw [hm] at this; exact this.symm)
    have hapart:∀ n id m b,look n ps=some id→e.get id=some m→m.has b→¬ (eJ.pr b∧b < w3.heap.size):=by
      rintro n id m b hl hm hb ⟨h1,h2⟩
      have h3:=(hRF.prS b h2 h1).resolve_right fun hf=>(hF0 b hf).2 ⟨id,m,hm,hb⟩
      have h4:=hs'.inj n 19999 m m' b (by rw [hpin n id hl]; exact hm) hm' hb h3
      have:=hpsr n id hl
      omega
    have hbown:∀ b,eb.owned b→(∃ n id m,look n ps=some id∧e.get id=some m∧m.has b)∨eJ.owned b:=by
      rintro b ⟨n,m,hm,hb⟩
      cases hl:look n ps with
      | some id=>rw [hgb1 n id hl] at hm; exact .inl ⟨n,id,m,hl,hm,hb⟩
      | none=>rw [hgb2 n hl] at hm; exact .inr ⟨n,m,hm,hb⟩
    have hJlt:∀ b,eJ.owned b→b < w3.heap.size:=fun b ⟨id,m,hm,hb⟩=>hRF.conc.sim.blk_lt hm hb
    have hsA:∀ n id m b,look n ps=some id→e.get id=some m→m.has b→e.subOwn (ps ++ qs) b:=fun n id m b hl hm hb=>⟨n,m,by rw [hlapp,hl]; exact hm,hb⟩
    have hsimb:Sim w4 eb (os ++ objsJ):=by
      refine ⟨fun n=>?_,fun i j mi mj b hi hj hbi hbj=>?_,fun n o m ho hm=>?_,fun b hb=>?_,fun b hb=>?_⟩
      · rw [look_append,(objsFor_get hos n).1]
        cases hl:look n ps with
        | some id =>
          rw [hgb1 n id hl]
          simp only [Option.bind_some]
          have hd':=hc.sim.dom id
          cases hlo:look id st.objs with
          | some o=>rw [hlo] at hd'; simpa using hd'
          | none =>
            rw [hlo] at hd'
            simp only [Option.map_none]
            rw [hd']
            cases hlj:look n objsJ with
            | none=>rfl
            | some o=>have:=hkn n (by rw [hlj]; rfl); rw [hl] at this; cases this
        | none=>rw [hgb2 n hl]; exact hRF.conc.sim.dom n
      · cases hli:look i ps with
        | some idi =>
          rw [hgb1 i idi hli] at hi
          cases hlj:look j ps with
          | some idj =>
            rw [hgb1 j idj hlj] at hj
            have:=hc.sim.inj idi idj mi mj b hi hj hbi hbj
            subst this
            have e1:=look_findOld (psOk_2 hps) hli
            rw [look_findOld (psOk_2 hps) hlj] at e1
            cases e1; rfl
          | none =>
            rw [hgb2 j hlj] at hj
            have ho:eJ.owned b:=⟨j,mj,hj,hbj⟩
            exact absurd ⟨hRF.conc.sim.prok b ho,hJlt b ho⟩ (hapart i idi mi b hli hi hbi)
        | none =>
          rw [hgb2 i hli] at hi
          cases hlj:look j ps with
          | some idj =>
            rw [hgb1 j idj hlj] at hj
            have ho:eJ.owned b:=⟨i,mi,hi,hbi⟩
            exact absurd ⟨hRF.conc.sim.prok b ho,hJlt b ho⟩ (hapart j idj mj b hlj hj hbj)
          | none=>rw [hgb2 j hlj] at hj; exact hRF.conc.sim.inj i j mi mj b hi hj hbi hbj
      · cases hl : look n ps with
        | some id =>
          have hec:ec'.get n=some m:=by rw [hpin n id hl,← hgb1 n id hl]; exact hm
          have hlo:look n os=some o:=by
            rw [look_append] at ho
            cases hlo:look n os with
            | some o'=>rw [hlo] at ho; exact ho
            | none =>
              rw [hlo] at ho
              have:=hkn n (by rw [show look n objsJ=some o from ho]; rfl)
              rw [hl] at this; cases this
          have hne:¬ 19999=n:=by have:=hpsr n id hl; omega
          have h5:=hs'.obj n o m (by simp only [look]; rw [if_neg hne]; exact hlo) hec
          refine h5.moveP (List.all_eq_true.1 hbox _ (look_mem hlo)) (fun b hb=>h4o b (fun he=>?_)) fun b hbq hbc=>⟨h4o b (fun he=>?_), ?_⟩
          subst he
          have hE:ExtOk w3 ec' m' (w.heap.size + 1) _:=hs'.obj 19999 _ m' look_head hm'
          · exact hne (hs'.inj n 19999 m m' _ hec hm' hb (.inl hE.blk)).symm
          · subst he
            obtain ⟨o',v',hv'⟩:=hbc
            simp [World.cell?,hRF.hrec] at hv'
          · have hnS:¬ m'.has b:=fun hS=>hbq.2 ⟨19999,m',hm',hS⟩
            have hnO:¬ e.subOwn ps b:=by
              rintro ⟨n',m'',k1,k2⟩
              simp only [Option.bind_eq_some_iff] at k1
              obtain ⟨id',k3,k4⟩:=k1
              exact hbq.2 ⟨n',m'',by rw [hpin n' id' k3]; exact k4,k2⟩
            have hbl:b < w.heap.size→F0 b:=fun hlt'=>(hRF.cov b hlt' hnO).resolve_left hnS
            refine ⟨hprA b ?_,fun hob=>?_⟩
            · rcases Nat.lt_or_ge b w.heap.size with k1 | k1
              · exact (hbl k1).1.1
              · exact hc.sim.new b k1
            · rcases hbown b hob with ⟨n',id',m'',k1,k2,k3⟩ | k
              · exact hnO ⟨n',m'',by rw [k1]; exact k2,k3⟩
              · rcases hRF.prS b hbc.lt (hRF.conc.sim.prok b k) with k1 | k1
                · exact hnS k1
                · exact (hF0 b k1).2 (hRF.own b k (hF0 b k1).1)
        | none =>
          rw [hgb2 n hl] at hm
          have hlo:look n objsJ=some o:=by
            rw [look_append,(objsFor_get hos n).1,hl] at ho
            exact ho
          have:=(c4.sim.obj n o m hlo hm).ren (w':=w4) (e':=eb) (fun i=>i) (fun id mi _ hg=>⟨mi,by rw [hgb2 id (hJs id mi hg)]; exact hg,mi.same_refl⟩) (.inl fun b hb hlt'=>⟨rfl,hprA b (hRF.pr1 b hb.1),fun hob=>?_⟩) (Nat.le_refl _) ⟨rfl,rfl,rfl⟩ (fun _ _=>rfl)
          · rwa [men_ren_id] at this
          · rcases hbown b hob with ⟨n',id',m'',k1,k2,k3⟩ | k
            · exact hapart n' id' m'' b k1 k2 k3 ⟨hb.1,by rw [← h4s]; exact hlt'⟩
            · exact hb.2 k
      · rcases hbown b hb with ⟨n',id',m'',k1,k2,k3⟩ | k
        · exact .inr (hsA n' id' m'' b k1 k2 k3)
        · exact hprA b (hRF.pr1 b (hRF.conc.sim.prok b k))
      · have h5:w.heap.size≤b:=by have:=hRF.size; omega
        exact .inl ⟨hc.sim.new b h5,fun ho=>by have:=hlt b ho; omega⟩
    have hfrb:Fr w (e.view (ps ++ qs) false) w4 eb:=by
      refine ⟨h4w.1.trans hRF.os,h4w.2.1.trans hRF.tape,h4w.2.2.trans hRF.output,by rw [h4s]; exact hRF.size,fun b hb hn=>?_,fun b hb hlt'=>?_,rfl,⟨fun n n1 n2=>?_,fun m hm=>?_⟩⟩
      · rw [h4o b (by omega)]
        exact hRF.blk b hb (fun ho=>hn (hsubA b ho))
      · rcases hbown b hb with ⟨n',id',m'',k1,k2,k3⟩ | k
        · exact hsA n' id' m'' b k1 k2 k3
        · exact hsubA b (hRF.own b k hlt')
      · show _=(look n (ps ++ qs)).bind e.get
        cases hl:look n ps with
        | some id=>rw [hgb1 n id hl,hlapp,hl]; rfl
        | none=>rw [hgb2 n hl,hlapp,hl,hRF.pin n n1 n2]; rfl
      · exfalso
        have hm2:(look 19999 (ps ++ qs)).bind e.get=some m:=hm
        cases hl:look 19999 (ps ++ qs) with
        | none=>rw [hl] at hm2; cases hm2
        | some id =>
          have:=List.all_eq_true.1 h199 (19999,id) (look_mem hl)
          simp at this
    obtain ⟨e3,q1,q2,_⟩:=adopt_concL hc false hpq hd hback (.inr ⟨fun n id _=>.inr (.inr fun j o hj hno=>by
      exfalso
      have hdom:(look j st.objs).isSome=true:=killIds_dom hj
      obtain ⟨x,hx⟩:=look_some_mem.1 hdom
      obtain ⟨n',hn'⟩:=findOld_mem (show j∈(ps ++ qs).map (·.2) by simpa using List.all_eq_true.1 hall _ hx)
      rw [hno] at hn'; cases hn'),hloose⟩) hsimb hfrb (r:=.dead) (v:=v) (.dead v) rfl
    have hD4:w4.heap[w.heap.size]?=some (.deferred (some [])):=by rw [h4o _ (by omega)]; exact hRF.dfr
    refine ⟨e3,⟨q1.sim,⟨⟨List.nodup_cons.2 ⟨fun hmem=>?_,q1.defers.1.1⟩,q1.defers.1.2⟩,fun d' hd'=>?_⟩,q1.size,q1.tmp⟩,q2⟩
    · obtain ⟨D,g1,g2,_⟩:=hc.defers.2 _ hmem
      have hDD:D=w.heap.size:=by cases g1; rfl
      subst hDD
      have:=(Array.getElem?_eq_some_iff.1 g2).1
      omega
    · rcases List.mem_cons.1 hd' with rfl | hd'
      · exact ⟨w.heap.size,rfl,hD4,not_owned_deferred q1.sim (List.all_eq_true.2 fun x hx=>hnx x hx) hD4,by rw [q2.bs]; exact hc.defers.1.2⟩
      · exact q1.defers.2 d' hd'
  have hE:ExtOk w3 ec' m' (w.heap.size + 1) _:=hs'.obj 19999 _ m' look_head hm'
  have hJ:=hE.holds
  cases hres' : res with
  | none =>
    rw [hres'] at hJ hres
    have hJ2:JJ ns.length=⟨F0,RR .ready none (oR ns.length)⟩:=hJr ns.length hres
    simp only [endN] at hJ
    rw [hJ2] at hJ
    obtain ⟨eJ,hRF⟩:=hJ
    obtain ⟨hok,hQ⟩:=hN hres'
    obtain ⟨e4,k1,k2⟩:=key .ready none (oR ns.length) eJ hRF hok
    subst hrec0
    exact ⟨_,_,run_endLoop hRF.hrec (by simp),_,e4,k1,k2,hQ⟩
  | some s =>
    rw [hres'] at hJ hres
    obtain ⟨⟨y,PX⟩,hz⟩:=Option.isSome_iff_exists.1 hres.2.1
    have hJ2:JJ (s + 1)=⟨F0,fun w S=>∃ oX,PX oX∧RR .done (some (codeOf y)) oX w S⟩:=by show endJ F0 RR (oR (s + 1)) (Z s)=_; rw [hz]; rfl
    simp only [endN] at hJ
    rw [hJ2] at hJ
    obtain ⟨oX,hPX,eJ,hRF⟩:=hJ
    obtain ⟨hjy,hXX⟩:=hX s y PX hres' hz
    obtain ⟨hok,hQ⟩:=hXX oX hPX
    obtain ⟨e4,k1,k2⟩:=key .done (some (codeOf y)) oX eJ hRF hok
    subst hrec0
    refine ⟨_,_,run_endLoop hRF.hrec (by simp), ?_⟩
    cases y with
    | ret=>exact wpIn_ret ⟨_,e4,k1,k2,hQ⟩
    | exit id=>exact wpIn_exit ⟨_,e4,k1,k2,hQ⟩
    | goto t=>exact wpIn_goto ⟨_,e4,k1,k2,hQ⟩
    | normal=>cases hjy
    | panic c=>cases hjy
    | outgrown=>cases hjy
def firstS (stop:Nat→Bool) (n:Nat):Option Nat:=(List.range n).find? stop
theorem firstS_none {stop:Nat→Bool} {n:Nat}:firstS stop n=none↔∀ k,k < n→stop k=false:=by simp [firstS,List.find?_eq_none]
theorem firstS_some {stop:Nat→Bool} {n s:Nat}:firstS stop n=some s↔s < n∧stop s=true∧∀ k,k < s→stop k=false:=by
  unfold firstS
  rw [List.find?_range_eq_some]
  simp only [List.mem_range]
  constructor
  · rintro ⟨h1,h2,h3⟩; exact ⟨h2,h1,fun k hk=>by simpa using h3 k hk⟩
  · rintro ⟨h1,h2,h3⟩; exact ⟨h2,h1,fun k hk=>by simpa using h3 k hk⟩
def rounds (stop:Nat→Bool) (n:Nat):Nat:=endN (firstS stop n) n
theorem rounds_all {stop:Nat→Bool} {n:Nat} (h:∀ k,k < n→stop k=false):rounds stop n=n:=by rw [rounds,firstS_none.2 h]; rfl
theorem rounds_at {stop:Nat→Bool} {n s:Nat} (h1:s < n) (h2:stop s=true) (h3:∀ k,k < s→stop k=false):rounds stop n=s + 1:=by rw [rounds,firstS_some.2 ⟨h1,h2,h3⟩]; rfl
theorem RoundV.go {β:Type} {nt:Nat} {objsN:List (Nat×Obj)} {oX:β→List (Nat×Obj)} {B:β→Prop} {y:Exit} {s:St} {b:Bool} (h:b=false) (hl:Le s ⟨nt,[],objsN⟩):RoundV nt objsN (if b=true then some (y,fun o=>∃ x,B x∧o=oX x) else none) .normal s:=by
  subst h; exact ⟨rfl,hl⟩
theorem RoundV.out {β:Type} {nt:Nat} {objsN:List (Nat×Obj)} {oX:β→List (Nat×Obj)} {B:β→Prop} {y:Exit} {s:St} {b:Bool} (x:β) (h:b=true) (hB:B x) (hj:jumpy y=true) (hl:Le s ⟨nt,[],oX x⟩):RoundV nt objsN (if b=true then some (y,fun o=>∃ x,B x∧o=oX x) else none) y s:=by
  subst h; exact ⟨rfl,hj,_,⟨x,hB,rfl⟩,hl⟩
theorem W.rangeT {α β : Type} {g : Operand} {params : List Nat} {assign body : Code} {st : St} {Q : Exit → St → Prop} {f : FuncId} {caps ys : List AV} (hg : st.calleeC g = some (f, caps))
    (ps qs:List (Nat×Nat)) (hpq:psOkL (ps ++ qs)=true) (hps:psOk ps=true) (hqs:psOkL qs=true) (hall:(st.objs.all fun x=>((ps ++ qs).map (·.2)).contains x.1)=true) (h199:((ps ++ qs).all fun x=>x.1 != 19999)=true)
    (hcap:capR ps caps=some ys) {os:List (Nat×Obj)} (hos:st.objsFor ps ps=some os) (hbox:(os.all fun x=>x.2.plain)=true) (oR:Nat→List (Nat×Obj)) (hoR:st.objsFor qs qs=some (oR 0)) (L:List Nat) {tm:List (Nat×AV)} (htm:st.tmpsFor qs L=some tm) (htl:looseTm qs tm=true) (hp:(params.all fun p=>decide (p < st.nt))=true)
    (l:List α) (fn:α→List AV) (hfn:∀ x,(fn x).length=params.length) (stop:Nat→Bool) (y:Nat→Exit) (hy:∀ k,jumpy (y k)=true) (B:Nat→β→Prop) (oX:Nat→β→List (Nat×Obj))
    (hround:∀ (k:Nat) (hk:k < l.length),(∀ j,j < k→stop j=false)→W (M:=anyMode) P assign ⟨st.nt,setPs params (fn l[k]) tm,oR k⟩ (fun x s=>x = .normal∧W (M:=anyMode) P body s (RoundV st.nt (oR (k + 1)) (if stop k=true then some (y k,fun o=>∃ x,B k x∧o=oX k x) else none))))
    (hcall:∀ (lp:Nat) (J:Nat→Fgn),(∀ (k:Nat) (hk:k < l.length),(∀ j,j < k→stop j=false)→YieldV P lp (J k) (fn l[k]) (fun t J'=>t = !stop k∧J'=J (k + 1))) →
      ACalls P f (.yld 19999 :: ys) ((19999,.ext lp (J 0)) :: os) (fun _ o=>o=(19999,.ext lp (J (rounds stop l.length))) :: os))
    (d:Nat) (hd:d < 1250)
    (hN:(∀ k,k < l.length→stop k=false)→(backOk (ps ++ qs) d (os ++ oR l.length) && looseOk (ps ++ qs) (st.killIds (newIds d (os ++ oR l.length))).tmps && ((oR l.length).all fun x=>(look x.1 ps).isNone) && ((st.adopt (ps ++ qs) d (os ++ oR l.length)).objs.all fun x=>x.2.notExt))=true∧Q .normal (st.adopt (ps ++ qs) d (os ++ oR l.length)))
    (hX:∀ s,s < l.length→stop s=true→(∀ k,k < s→stop k=false)→∀ x,B s x→(backOk (ps ++ qs) d (os ++ oX s x) && looseOk (ps ++ qs) (st.killIds (newIds d (os ++ oX s x))).tmps && ((oX s x).all fun x=>(look x.1 ps).isNone) && ((st.adopt (ps ++ qs) d (os ++ oX s x)).objs.all fun x=>x.2.notExt))=true∧Q (y s) (st.adopt (ps ++ qs) d (os ++ oX s x))) :
    W (M:=outMode) P (.rangeFunc g params.toArray assign body) st Q:=by
  have hlen:(l.map fn).length=l.length:=by simp
  refine W.rangeV hg ps qs hpq hps hqs hall h199 hcap hos hbox oR hoR L htm htl hp (l.map fn) (fun xs hx=>?_) (fun k=>if stop k=true then some (y k,fun o=>∃ x,B k x∧o=oX k x) else none) (firstS stop l.length) ?_ (fun k xs hk hbef=>?_) (fun lp J hJ=>?_) d hd (fun hn=>?_) (fun s y' PX' hs hz=>?_)
  · obtain ⟨x,_,rfl⟩:=List.mem_map.1 hx; exact hfn x
  · cases hfs:firstS stop l.length with
    | none=>intro k hk; have:=firstS_none.1 hfs k (by simpa using hk); simp [this]
    | some s=>obtain ⟨h1,h2,h3⟩:=firstS_some.1 hfs; exact ⟨by simpa using h1,by simp [h2],fun k hk=>by simp [h3 k hk]⟩
  · rw [List.getElem?_map] at hk
    obtain ⟨x,hx,rfl⟩:=Option.map_eq_some_iff.1 hk
    obtain ⟨hkl,rfl⟩:=List.getElem?_eq_some_iff.1 hx
    refine hround k hkl fun j hj=>?_
    have:=hbef j hj
    cases hs:stop j with
    | false=>rfl
    | true=>simp [hs] at this
  · rw [hlen]
    refine hcall lp J fun k hk hbef=>?_
    have hend:k < endN (firstS stop l.length) (l.map fn).length:=by
      cases hfs:firstS stop l.length with
      | none=>simpa [endN] using hk
      | some s =>
        have h1:=(firstS_some.1 hfs).2.1
        simp only [endN]
        apply Classical.byContradiction
        intro hn
        rw [hbef s (by omega)] at h1; cases h1
    refine (hJ k (fn l[k]) (by simp [hk]) hend).mono ?_
    rintro t J' ⟨rfl,q2⟩
    refine ⟨?_,q2⟩
    congr 1
    cases hs:stop k with
    | true=>exact decide_eq_true (firstS_some.2 ⟨hk,hs,hbef⟩)
    | false=>exact decide_eq_false fun h=>by have:=(firstS_some.1 h).2.1; rw [hs] at this; cases this
  · rw [hlen]
    exact hN (firstS_none.1 hn)
  · obtain ⟨h1,h2,h3⟩:=firstS_some.1 hs
    rw [if_pos h2] at hz
    cases hz
    refine ⟨hy s, ?_⟩
    rintro o ⟨x,hx,rfl⟩
    exact hX s h1 h2 h3 x hx
theorem W.rangeS {α β:Type} {g:Operand} {params:List Nat} {assign body:Code} {st:St} {Q:Exit→St→Prop} {f:FuncId} {caps ys:List AV} (hg:st.calleeC g=some (f,caps))
    (ps qs:List (Nat×Nat)) (hpq:psOkL (ps ++ qs)=true) (hps:psOk ps=true) (hqs:psOkL qs=true) (hall:(st.objs.all fun x=>((ps ++ qs).map (·.2)).contains x.1)=true) (h199:((ps ++ qs).all fun x=>x.1 != 19999)=true)
    (hcap:capR ps caps=some ys) {os:List (Nat×Obj)} (hos:st.objsFor ps ps=some os) (hbox:(os.all fun x=>x.2.plain)=true) (oR:Nat→List (Nat×Obj)) (hoR:st.objsFor qs qs=some (oR 0)) (L:List Nat) {tm:List (Nat×AV)} (htm:st.tmpsFor qs L=some tm) (htl:looseTm qs tm=true) (hp:(params.all fun p=>decide (p < st.nt))=true)
    (l:List α) (fn:α→List AV) (hfn:∀ x,(fn x).length=params.length) (stop:Nat→Bool) (y:Exit) (hy:jumpy y=true) (B:Nat→β→Prop) (oX:Nat→β→List (Nat×Obj))
    (hround:∀ (k:Nat) (hk:k < l.length),(∀ j,j < k→stop j=false)→W (M:=anyMode) P assign ⟨st.nt,setPs params (fn l[k]) tm,oR k⟩ (fun x s=>x = .normal∧W (M:=anyMode) P body s (RoundV st.nt (oR (k + 1)) (if stop k=true then some (y,fun o=>∃ x,B k x∧o=oX k x) else none))))
    (hcall:∀ (lp:Nat) (J:Nat→Fgn),(∀ (k:Nat) (hk:k < l.length),(∀ j,j < k→stop j=false)→YieldV P lp (J k) (fn l[k]) (fun t J'=>t = !stop k∧J'=J (k + 1))) →
      ACalls P f (.yld 19999 :: ys) ((19999,.ext lp (J 0)) :: os) (fun _ o=>o=(19999,.ext lp (J (rounds stop l.length))) :: os))
    (d:Nat) (hd:d < 1250)
    (hN:(∀ k,k < l.length→stop k=false)→(backOk (ps ++ qs) d (os ++ oR l.length) && looseOk (ps ++ qs) (st.killIds (newIds d (os ++ oR l.length))).tmps && ((oR l.length).all fun x=>(look x.1 ps).isNone) && ((st.adopt (ps ++ qs) d (os ++ oR l.length)).objs.all fun x=>x.2.notExt))=true∧Q .normal (st.adopt (ps ++ qs) d (os ++ oR l.length)))
    (hX:∀ s,s < l.length→stop s=true→(∀ k,k < s→stop k=false)→∀ x,B s x→(backOk (ps ++ qs) d (os ++ oX s x) && looseOk (ps ++ qs) (st.killIds (newIds d (os ++ oX s x))).tmps && ((oX s x).all fun x=>(look x.1 ps).isNone) && ((st.adopt (ps ++ qs) d (os ++ oX s x)).objs.all fun x=>x.2.notExt))=true∧Q y (st.adopt (ps ++ qs) d (os ++ oX s x))) :
    W (M:=outMode) P (.rangeFunc g params.toArray assign body) st Q:=W.rangeT hg ps qs hpq hps hqs hall h199 hcap hos hbox oR hoR L htm htl hp l fn hfn stop (fun _=>y) (fun _=>hy) B oX hround hcall d hd hN hX
end
attribute [simp] setPs jumpy
end Go.Sim
namespace Go.Sim
open Go.RowKit
section
variable {P:Program} {Γ:TypeId→Option TI}
theorem Conc.goneI {st:St} {a:Act} {w:World} {e:Env} (h:Conc st a w e) {id:Nat} {ty:TypeId} {sz:Nat} {els:List AV} (ho:look id st.objs=some (.row true ty sz els)) (hz:0 < sz) (hu:unp id=true) :
    ∃ e',Conc { st with objs:=(id,.gone) :: st.objs } a w e'∧Fr w e w e'∧∀ v,Rd w e (.own id 0 els.length) v→Rd w e' (.imm els) v:=by
  let gm:Mta:=mt none 1 0
  let e' : Env:={ e with get:=fun j=>if j=id then some gm else e.get j }
  have hget:∀ j,e'.get j=if j=id then some gm else e.get j:=fun _=>rfl
  have hgm:∀ b,¬ gm.has b:=fun b hb=>by rcases hb with hb | hb <;> cases hb
  have hfr:Fr w e w e':=by
    refine ⟨rfl,rfl,rfl,Nat.le_refl _,fun b hb hn=>rfl,fun b ho hb=>?_,rfl,Pinned.of fun j hj=>?_⟩
    · obtain ⟨j,mj,hj,hm⟩:=ho
      rw [hget] at hj
      split at hj
      · cases hj; exact absurd hm (hgm b)
      · exact ⟨j,mj,hj,hm⟩
    · rw [hget,if_neg (unp_ne hu hj)]
  have hT:Turns w e w e' (fun x=>x):=by
    intro x v hx
    refine hx.evolveX hfr.q fun j mj hmen hj=>?_
    rw [hget]
    by_cases h2:j=id
    · rw [if_pos h2]; exact .inr ⟨gm,rfl,rfl,rfl⟩
    · rw [if_neg h2]; exact .inl hj
  refine ⟨e',⟨⟨fun j=>?_,fun i j mi mj b hi hj hb hb'=>?_,fun j o mj ho' hm=>?_,fun b hb=>?_,h.sim.new⟩,h.defers.fr hfr,h.size,fun t x hx=>?_⟩,hfr,fun v hv=>?_⟩
  · simp only [hget,look]
    by_cases h2:id=j
    · subst h2; simp
    · rw [if_neg (Ne.symm h2),if_neg h2]; exact h.sim.dom j
  · rw [hget] at hi hj
    split at hi
    · cases hi; exact absurd hb (hgm _)
    · split at hj
      · cases hj; exact absurd hb' (hgm _)
      · exact h.sim.inj i j mi mj b hi hj hb hb'
  · simp only [look] at ho'
    rw [hget] at hm
    by_cases h2:id=j
    · rw [if_pos h2] at ho'; rw [if_pos h2.symm] at hm
      cases ho'; cases hm
      exact ⟨⟨rfl,rfl⟩,fun _ h=>h⟩
    · rw [if_neg h2] at ho'; rw [if_neg (Ne.symm h2)] at hm
      have:=hT.obj (fun x hx=>hx) hfr.q (h.sim.obj j o mj ho' hm) hfr.size ⟨hfr.os,hfr.tape,hfr.output⟩ (fun b hb=>rfl)
      rwa [Obj.map_self] at this
  · obtain ⟨j,mj,hj,hb'⟩:=hb
    rw [hget] at hj
    split at hj
    · cases hj; exact absurd hb' (hgm b)
    · exact h.sim.prok b ⟨j,mj,hj,hb'⟩
  · obtain ⟨v,hv,hr⟩:=h.tmp t x hx
    exact ⟨v,hv,hT _ _ hr⟩
  · have hfz:st.freeze id=some (st.turn id (AV.frz id els)):=by unfold St.freeze; rw [ho]; exact if_pos ⟨hz,hu⟩
    have:=(h.freeze hfz).2.2 ty sz els ho _ _ hv
    simp only [AV.frz,if_true,Nat.zero_add,Nat.le_refl,List.drop_zero,List.take_length] at this
    have hd:=this.toData rfl
    have hq:(e.drop id).q=e'.q:=by
      funext b
      refine propext (and_congr_right fun _=>not_congr ⟨?_, ?_⟩)
      · rintro ⟨j,mj,hj,hb⟩
        simp only [Env.drop] at hj
        split at hj
        · cases hj
        · rename_i hne; exact ⟨j,mj,by rw [hget,if_neg hne]; exact hj,hb⟩
      · rintro ⟨j,mj,hj,hb⟩
        rw [hget] at hj
        split at hj
        · cases hj; exact absurd hb (hgm b)
        · rename_i hne; exact ⟨j,mj,by simp only [Env.drop]; rw [if_neg hne]; exact hj,hb⟩
    rw [hq] at hd
    exact .data hd
theorem QStep.frz {o:Oper} {st:St} {nid:Nat} {ty:TypeId} {sz n:Nat} {els:List AV} {new:List (Nat×Obj)} (h:QStep P o st (.own nid 0 n) ((nid,.row true ty sz els) :: new)) (hn:n=els.length) (hz:0 < sz) (hu:unp nid=true):QStep P o st (.imm els) ((nid,.gone) :: new):=by
  subst hn
  intro S rd a w e hc hs hno next Q hk
  refine h S rd a w e hc hs (fun x hx=>?_) next Q fun v w' e' c' f' r'=>?_
  · rcases List.mem_cons.1 hx with rfl | hx
    · exact hno (nid,.gone) (by simp)
    · exact hno x (List.mem_cons_of_mem _ hx)
  · obtain ⟨e2,c2,f2,r2⟩:=c'.goneI (id:=nid) (ty:=ty) (sz:=sz) (els:=els) (by simp [look]) hz hu
    refine hk v w' e2 (c2.congr (fun t=>rfl) (fun id=>?_) rfl) (f'.trans f2) (r2 v r')
    simp only [List.cons_append,look]
    split <;> rfl
def imD:AV→List (Nat×Obj)→Option (AV×List (Nat×Obj))
  | .own n 0 m,(n',.row true _ sz els) :: new=>if n'=n∧m=els.length∧0 < sz∧unp n=true then some (.imm els,(n,.gone) :: new) else none
  | _,_=>none
theorem QStep.imD {o:Oper} {st:St} {r r' : AV} {new new' : List (Nat×Obj)} (h:QStep P o st r new) (hi:imD r new=some (r',new')):QStep P o st r' new':=by
  unfold Go.Sim.imD at hi
  split at hi
  · split at hi
    · rename_i hc
      obtain ⟨rfl,h2,h3,h4⟩:=hc
      cases hi
      exact QStep.frz h h2 h3 h4
    · cases hi
  · cases hi
end
end Go.Sim
namespace Go.Sim
open Go.RowKit
section
variable {P:Program} {Γ:TypeId→Option TI}
theorem RowOk.loose {w:World} {e:Env} {m:Mta} {ty:TypeId} {sz:Nat} {els:List AV} (h:RowOk w e m true ty sz els):RowOk w e m false ty sz els:=by
  refine ⟨h.hsz,h.len,h.cap,h.cells,h.only, ?_⟩
  have hk:=h.blk
  cases hmb:m.blk with
  | none=>simpa [hmb] using hk
  | some b =>
    simp only [hmb] at hk ⊢
    obtain ⟨cur,h1,h2,h3⟩:=hk
    refine ⟨cur,h1,h2,fun i x hx j y hy=>?_⟩
    obtain ⟨v,g1,g2,g3⟩:=h3 i x hx j y hy
    exact ⟨v,g1,g2,by simpa [CellRd] using g3.rd⟩
theorem AV.cells_data {x y:AV} (h:x.isData=true) (hy:y∈x.cells):y.isData=true:=by
  cases x <;> first
    | (simp only [AV.cells,List.mem_singleton] at hy; subst hy; exact h)
    | (simp only [AV.cells] at hy; exact AV.isDataL_mem (by simpa [AV.isData] using h) hy)
theorem RowOk.tight {w:World} {e:Env} {m:Mta} {ty:TypeId} {sz:Nat} {els:List AV} (h:RowOk w e m false ty sz els) (hd:AV.isDataL els=true):RowOk w e m true ty sz els:=by
  refine ⟨h.hsz,h.len,h.cap,h.cells,h.only, ?_⟩
  have hk:=h.blk
  cases hmb:m.blk with
  | none=>simpa [hmb] using hk
  | some b =>
    simp only [hmb] at hk ⊢
    obtain ⟨cur,h1,h2,h3⟩:=hk
    refine ⟨cur,h1,h2,fun i x hx j y hy=>?_⟩
    obtain ⟨v,g1,g2,g3⟩:=h3 i x hx j y hy
    refine ⟨v,g1,g2, ?_⟩
    simp only [CellRd,if_true]
    exact g3.rd.toData (AV.cells_data (AV.isDataL_mem hd (List.mem_of_getElem? hx)) (List.mem_of_getElem? hy))
theorem MapOk.loose {w:World} {e:Env} {m:Mta} {sh:Value} {ents:List (Value×AV)} (h:MapOk w e m true sh ents):MapOk w e m false sh ents:=by
  obtain ⟨b,es,clock,h1,h2,h3,h3',h4⟩:=h.blk
  refine ⟨h.only,h.good,b,es,clock,h1,h2,h3,h3',fun i k x hx=>?_⟩
  obtain ⟨en,g1,g2,g3⟩:=h4 i k x hx
  exact ⟨en,g1,g2,by simpa [CellRd] using g3.rd⟩
theorem MapOk.tight {w:World} {e:Env} {m:Mta} {sh:Value} {ents:List (Value×AV)} (h:MapOk w e m false sh ents) (hd:(ents.all fun x=>x.2.isData)=true):MapOk w e m true sh ents:=by
  obtain ⟨b,es,clock,h1,h2,h3,h3',h4⟩:=h.blk
  refine ⟨h.only,h.good,b,es,clock,h1,h2,h3,h3',fun i k x hx=>?_⟩
  obtain ⟨en,g1,g2,g3⟩:=h4 i k x hx
  refine ⟨en,g1,g2, ?_⟩
  simp only [CellRd,if_true]
  exact g3.rd.toData (List.all_eq_true.1 hd _ (List.mem_of_getElem? hx))
def St.loose (st:St) (id:Nat):Option St:=
  match look id st.objs with
  | some (.row true ty sz els)=>some { st with objs:=upd id (.row false ty sz els) st.objs }
  | some (.mp true sh ents)=>some { st with objs:=upd id (.mp false sh ents) st.objs }
  | _=>none
theorem Le.loose {st st' : St} {id:Nat} (h:st.loose id=some st'):Le st st':=by
  intro a w e hc
  unfold St.loose at h
  split at h
  · rename_i ty sz els ho
    cases h
    obtain ⟨m,hm⟩:=Option.isSome_iff_exists.1 (show (e.get id).isSome=true by rw [hc.sim.dom,ho]; rfl)
    have hk:=hc.sim.obj id _ m ho hm
    exact ⟨e,hc.write id _ m hm (Fr.refl w e) (fun _ _ _ _ _ _=>rfl) (RowOk.loose hk),Fr.refl w e⟩
  · rename_i sh ents ho
    cases h
    obtain ⟨m,hm⟩:=Option.isSome_iff_exists.1 (show (e.get id).isSome=true by rw [hc.sim.dom,ho]; rfl)
    have hk:=hc.sim.obj id _ m ho hm
    exact ⟨e,hc.write id _ m hm (Fr.refl w e) (fun _ _ _ _ _ _=>rfl) (MapOk.loose hk),Fr.refl w e⟩
  · cases h
def St.tight (st:St) (id:Nat):Option St:=
  match look id st.objs with
  | some (.row false ty sz els)=>if AV.isDataL els=true then some { st with objs:=upd id (.row true ty sz els) st.objs } else none
  | some (.mp false sh ents)=>if (ents.all fun x=>x.2.isData)=true then some { st with objs:=upd id (.mp true sh ents) st.objs } else none
  | _=>none
theorem Le.tight {st st' : St} {id:Nat} (h:st.tight id=some st'):Le st st':=by
  intro a w e hc
  unfold St.tight at h
  split at h
  · rename_i ty sz els ho
    split at h
    · rename_i hd
      cases h
      obtain ⟨m,hm⟩:=Option.isSome_iff_exists.1 (show (e.get id).isSome=true by rw [hc.sim.dom,ho]; rfl)
      have hk:=hc.sim.obj id _ m ho hm
      exact ⟨e,hc.write id _ m hm (Fr.refl w e) (fun _ _ _ _ _ _=>rfl) (RowOk.tight hk hd),Fr.refl w e⟩
    · cases h
  · rename_i sh ents ho
    split at h
    · rename_i hd
      cases h
      obtain ⟨m,hm⟩:=Option.isSome_iff_exists.1 (show (e.get id).isSome=true by rw [hc.sim.dom,ho]; rfl)
      have hk:=hc.sim.obj id _ m ho hm
      exact ⟨e,hc.write id _ m hm (Fr.refl w e) (fun _ _ _ _ _ _=>rfl) (MapOk.tight hk hd),Fr.refl w e⟩
    · cases h
  · cases h
def exch (a b j:Nat):Nat:=if j=a then b else if j=b then a else j
theorem exch_exch (a b j:Nat):exch a b (exch a b j)=j:=by
  unfold exch
  by_cases h1:j=a
  · subst h1; simp only [if_true]; split
    · rename_i h; exact h.symm ▸ rfl
    · rfl
  · rw [if_neg h1]
    by_cases h2:j=b
    · subst h2; simp
    · rw [if_neg h2,if_neg h1,if_neg h2]
theorem exch_inj {a b i j:Nat} (h:exch a b i=exch a b j):i=j:=by rw [← exch_exch a b i,h,exch_exch]
def St.exch (st:St) (a b:Nat):Option St:=
  if unp a=true∧unp b=true then some { st with tmps:=st.tmps.map fun x=>(x.1,x.2.ren (Go.Sim.exch a b)),objs:=st.objs.map fun x=>(Go.Sim.exch a b x.1,x.2.ren (Go.Sim.exch a b)) } else none
theorem look_map_snd {α:Type} (f:α→α) (t:Nat):∀ l:List (Nat×α),look t (l.map fun x=>(x.1,f x.2))=(look t l).map f
  | []=>rfl
  | (k,x) :: r=>by
    simp only [List.map_cons,look]
    split
    · rfl
    · exact look_map_snd f t r
theorem look_map_exch {α:Type} (f:α→α) (a b t:Nat):∀ l:List (Nat×α),look t (l.map fun x=>(exch a b x.1,f x.2))=(look (exch a b t) l).map f
  | []=>rfl
  | (k,x) :: r=>by
    simp only [List.map_cons,look]
    by_cases h:exch a b k=t
    · rw [if_pos h,if_pos (by rw [← h,exch_exch])]; rfl
    · rw [if_neg h,if_neg (fun h'=>h (by rw [h',exch_exch]))]; exact look_map_exch f a b t r
theorem Le.exch {st st' : St} {x y:Nat} (h:st.exch x y=some st'):Le st st':=by
  unfold St.exch at h
  split at h
  · rename_i hu
    cases h
    intro a w e hc
    let e' : Env:={ e with get:=fun j=>e.get (Go.Sim.exch x y j) }
    have hg:∀ id m,e.get id=some m→e'.get (Go.Sim.exch x y id)=some m:=fun id m hm=>by simp only [e',exch_exch]; exact hm
    have hown:∀ b,e'.owned b→e.owned b:=fun b ⟨j,m,hj,hb⟩=>⟨_,m,hj,hb⟩
    have hfr:Fr w e w e':=by
      refine ⟨rfl,rfl,rfl,Nat.le_refl _,fun _ _ _=>rfl,fun b ho _=>hown b ho,rfl,.of fun j hj=>?_⟩
      show e.get (Go.Sim.exch x y j)=e.get j
      unfold Go.Sim.exch
      rw [if_neg (unp_ne hu.1 hj),if_neg (unp_ne hu.2 hj)]
    refine ⟨e',⟨⟨fun j=>?_,fun i j m m' b hi hj hb hb'=>?_,fun j o m ho hm=>?_,fun b hb=>h_prok hc hown b hb,hc.sim.new⟩,hc.defers.fr hfr,hc.size,fun t z hz=>?_⟩,hfr⟩
    · rw [look_map_exch]; simpa using hc.sim.dom (Go.Sim.exch x y j)
    · exact exch_inj (hc.sim.inj _ _ m m' b hi hj hb hb')
    · rw [look_map_exch] at ho
      obtain ⟨o0,ho0,rfl⟩:=Option.map_eq_some_iff.1 ho
      exact (hc.sim.obj _ o0 m ho0 hm).ren _ (fun id m _ hg'=>⟨m,hg id m hg',m.same_refl⟩) (.inl hfr.q) (Nat.le_refl _) ⟨rfl,rfl,rfl⟩ (fun _ _=>rfl)
    · rw [look_map_snd] at hz
      obtain ⟨z0,hz0,rfl⟩:=Option.map_eq_some_iff.1 hz
      obtain ⟨v,hv,hr⟩:=hc.tmp t z0 hz0
      exact ⟨v,hv,hr.ren _ (fun id m _ hg'=>⟨m,hg id m hg',m.same_refl⟩) (.inl hfr.q)⟩
  · cases h
where
  h_prok {st:St} {a:Act} {w:World} {e e' : Env} (hc:Conc st a w e) (hown:∀ b,e'.owned b→e.owned b) (b:Nat) (hb:e'.owned b):e.pr b:=hc.sim.prok b (hown b hb)
end
attribute [simp] St.loose St.tight St.exch exch
end Go.Sim
namespace Go.Sim
open Go.RowKit
section
variable {P:Program} {Γ:TypeId→Option TI}
def AV.empty:AV→Bool
  | .imm []=>true
  | .own _ 0 0=>true
  | _=>false
theorem empty_slice {w:World} {e:Env} {x:AV} {v:Value} (hx:x.empty=true) (h:Rd w e x v):∃ a n c,v = .slice a n c:=by
  unfold AV.empty at hx
  split at hx
  · cases h with | data h=>cases h with
    | imm0 a c=>exact ⟨a,0,c,rfl⟩
    | imm _ b off cap sz vals hne=>exact absurd rfl hne
  · cases h with
    | data h=>cases h
    | own0 id m hm hb a=>exact ⟨_,_,_,rfl⟩
    | own id off len m b hm hb hc=>exact ⟨_,_,_,rfl⟩
    | ownX id off len m hm hg a cap ha hc=>exact ⟨_,_,_,rfl⟩
  · cases hx
theorem WOps.nilU (hΓ:TOk P Γ) {ops rest:List Oper} {K:St→Prop} {o:Oper} {st:St} {t yt:TypeId} {x y:Operand} {ti:TI} {el:TypeId} (ho:o.op = .binOp .eql t x y yt) (hw:wantedA ops o st=some true) (hd:dstOk o st=true)
    (hti:Γ t=some ti) (hdd:ti.desc = .slice el) (hy:st.ev y = .val (.slice none 0 0)) (hx:(st.ev x).empty=true) (h:∀ b:Bool,WOps P ops K rest (st.put o.dst (.val (.bool b)))):WOps P ops K (o :: rest) st:=by
  refine ⟨hd,true,hw, ?_⟩
  simp only [if_true]
  intro rd a w e hc next Q hn
  have hk:=hΓ t ti hti
  have hu:=hk.und
  rw [hdd] at hu
  have h1:=hc.view.ev x
  have h2:=hc.view.ev y
  rw [hy] at h2
  have h3:=h2.val_inv
  obtain ⟨b,n,c,h4⟩:=empty_slice hx h1
  have hkk:NilKind P t (a.eval x) (a.eval y) b.isNone:=by rw [h3,h4]; exact .slice el hu b n c 0 0
  obtain ⟨g1,g2,g3⟩:=hkk.eql w
  have hp:PureOk P o (.val (.bool b.isNone)) a w e:=.mk (s:=(do eqGuard .eql t x y (a.eval x) (a.eval y); binOp .eql t (a.eval x) (a.eval y))) (by simp [execOp,ho]) (by rw [Sem.run_bind,g3,Result.andThen_ok,g1]) (.data (.val _))
  obtain ⟨v,q1,q2⟩:=hp
  refine ⟨fun _ _=>trivial, ?_⟩
  rw [semAt_ok q1 (by simp)]
  exact hn (.val (.bool b.isNone)) st v w e (h b.isNone) hc (Fr.refl w e) q2
attribute [simp] AV.empty
end
end Go.Sim
namespace Go.Sim
open Go.RowKit
section
variable {P:Program} {Γ:TypeId→Option TI}
def AV.gs (id:Nat):AV→AV
  | .own i off len=>.own i off len
  | .ptr i k off=>.ptr i k off
  | x=>if x.men id then .dead else x
theorem AV.gs_cells (id:Nat) (x:AV) (h:x.cells=[x]):(x.gs id).cells=[x.gs id]:=by
  cases x <;> simp only [AV.gs] <;> (repeat' split) <;> first | rfl | exact h
theorem turns_gs {w w' : World} {e : Env} {id : Nat} {m m' : Mta} (hm : e.get id = some m) (hng : ¬ m.gone) (h1 : m'.blk = m.blk) (h2 : m'.cap = m.cap) (h3 : m'.sz = m.sz) (hfr : Fr w e w' (e.set id m')) : Turns w e w' (e.set id m') (AV.gs id) := by
  intro x v hx
  have hgid:(e.set id m').get id=some m':=by simp [Env.set]
  have hget:∀ k,k≠id→(e.set id m').get k=e.get k:=fun k hk=>by simp [Env.set,hk]
  have key:∀ y:AV,y=x→Rd w' (e.set id m') (if y.men id then .dead else y) v:=by
    intro y hy
    subst hy
    cases hc:y.men id with
    | true=>exact .dead v
    | false =>
      refine hx.fr hfr fun k hk=>hget k ?_
      rintro rfl; rw [hc] at hk; cases hk
  cases x with
  | own i off len =>
    simp only [AV.gs]
    by_cases hi:i=id
    · subst hi
      cases hx with
      | data hx=>cases hx
      | own0 _ m0 hm0 hb a=>rw [hm] at hm0; cases hm0; exact .own0 _ m' hgid (by rw [h1]; exact hb) a
      | ownX _ _ _ m0 hm0 hg=>rw [hm] at hm0; cases hm0; exact absurd hg hng
      | own _ _ _ m0 b hm0 hb hc =>
        rw [hm] at hm0; cases hm0
        have:=Rd.own (w:=w') (e:=e.set i m') i off len m' b hgid (by rw [h1]; exact hb) (by rw [h2]; exact hc)
        rwa [h2,h3] at this
    · exact hx.fr hfr fun k hk=>by simp only [AV.men,beq_iff_eq] at hk; subst hk; exact hget _ hi
  | ptr i k off =>
    simp only [AV.gs]
    by_cases hi:i=id
    · subst hi
      cases hx with
      | data hx=>cases hx
      | ptrX _ _ _ m0 hm0 hg=>rw [hm] at hm0; cases hm0; exact absurd hg hng
      | ptr _ _ _ m0 b hm0 hb =>
        rw [hm] at hm0; cases hm0
        have:=Rd.ptr (w:=w') (e:=e.set i m') i k off m' b hgid (by rw [h1]; exact hb)
        rwa [h3] at this
    · exact hx.fr hfr fun k hk=>by simp only [AV.men,beq_iff_eq] at hk; subst hk; exact hget _ hi
  | _=>exact key _ rfl
def St.asGrid (st:St) (id:Nat) (ty:TypeId) (sz:Nat):Option St:=
  match look id st.objs with
  | some (.row true oty 1 els)=>if 0 < sz∧unp id=true then some { st with tmps:=mapV (AV.mapTop (AV.gs id)) st.tmps,objs:=upd id (.grid ty sz oty els.length []) (mapV (Obj.map (AV.gs id)) st.objs) } else none
  | _=>none
theorem Le.asGrid {st st' : St} {id : Nat} {ty : TypeId} {sz : Nat} (h : st.asGrid id ty sz = some st') : Le st st' := by
  unfold St.asGrid at h
  split at h
  · rename_i oty els ho
    split at h
    · rename_i hc
      obtain ⟨hz,hu⟩:=hc
      cases h
      intro a w e hcc
      have hdom:=hcc.sim.dom id
      rw [ho] at hdom
      obtain ⟨m,hm⟩:=Option.isSome_iff_exists.1 hdom
      have hk:RowOk w e m true oty 1 els:=hcc.sim.obj id _ m ho hm
      obtain ⟨m',hm'⟩:∃ m' : Mta,m'={ m with row:=(sz,m.row.2) }:=⟨_,rfl⟩
      have e1:m'.blk=m.blk:=by rw [hm']
      have e2:m'.cap=m.cap:=by rw [hm']
      have e3:m'.sz=m.sz:=by rw [hm']
      have e4:m'.row.1=sz:=by rw [hm']
      have e5:m'.more=m.more:=by rw [hm']
      have hhas:∀ b,m'.has b↔m.has b:=fun b=>by simp only [Mta.has,e1,e5]
      have hfr:Fr w e w (e.set id m'):=by
        refine ⟨rfl,rfl,rfl,Nat.le_refl _,fun _ _ _=>rfl,fun b ho _=>?_,rfl,Pinned.of fun j hj=>by simp [Env.set,unp_ne hu hj]⟩
        obtain ⟨j,mj,hj,hb⟩:=ho
        simp only [Env.set] at hj
        split at hj
        · cases hj; exact ⟨id,m,hm,(hhas b).1 hb⟩
        · exact ⟨j,mj,hj,hb⟩
      have hgid:(e.set id m').get id=some m':=by simp [Env.set]
      have hget:∀ k,k≠id→(e.set id m').get k=e.get k:=fun k hk=>by simp [Env.set,hk]
      have hT:=turns_gs hm hk.ngone e1 e2 e3 hfr
      refine ⟨e.set id m',⟨⟨fun k=>?_,fun i k mi mk b hi hj hb hb'=>?_,fun k o' mk ho' hmk=>?_,fun b hb=>?_,hcc.sim.new⟩,hcc.defers.fr hfr,hcc.size,fun t x hx=>?_⟩,hfr⟩
      · simp only [look_upd]
        by_cases hk:id=k
        · subst hk; simp [hgid]
        · rw [if_neg hk,hget k (Ne.symm hk),look_mapV]; simpa using hcc.sim.dom k
      · have hh:∀ k mk,(e.set id m').get k=some mk→mk.has b→∃ m0,e.get k=some m0∧m0.has b:=fun k mk hk hb=>by
          by_cases h1:k=id
          · subst h1; rw [hgid] at hk; cases hk; exact ⟨m,hm,(hhas b).1 hb⟩
          · rw [hget k h1] at hk; exact ⟨mk,hk,hb⟩
        obtain ⟨m1,g1,g2⟩:=hh i mi hi hb
        obtain ⟨m2,g3,g4⟩:=hh k mk hj hb'
        exact hcc.sim.inj i k m1 m2 b g1 g3 g2 g4
      · simp only [look_upd] at ho'
        by_cases hkk:id=k
        · subst hkk
          rw [if_pos rfl] at ho'
          rw [hgid] at hmk
          cases ho'; cases hmk
          refine ⟨?_,fun hg=>hk.ngone ⟨by rw [← e1]; exact hg.1,by rw [← e2]; exact hg.2⟩,fun b hb=>hcc.sim.blk_lt hm ((hhas b).1 hb),gridC_stab _ _ _ _ _⟩
          refine ⟨by rw [e3]; exact hk.hsz,e4,hz,Nat.zero_le _,by rw [e2]; exact hk.len,by rw [e2]; exact hk.cap,fun r hr=>by simp at hr, ?_,fun b=>?_,fun i j hi=>by simp at hi,fun i r hr=>by simp at hr⟩
          · have hkb:=hk.blk
            rw [e1,e2]
            cases hmb:m.blk with
            | none=>simpa [hmb] using hkb
            | some b =>
              simp only [hmb] at hkb ⊢
              obtain ⟨cur,h1,h2,_⟩:=hkb
              exact ⟨cur,h1,by rw [h2,Nat.mul_one],fun i hi=>by simp at hi,fun i r hr=>by simp at hr⟩
          · rw [e5]
            exact ⟨fun hb=>absurd hb (hk.only b),fun ⟨i,hi,_⟩=>by simp at hi⟩
        · rw [if_neg hkk,look_mapV] at ho'
          rw [hget k (Ne.symm hkk)] at hmk
          obtain ⟨o0,ho0,rfl⟩:=Option.map_eq_some_iff.1 ho'
          exact hT.obj (AV.gs_cells id) hfr.q (hcc.sim.obj k o0 mk ho0 hmk) (Nat.le_refl _) ⟨rfl,rfl,rfl⟩ (fun _ _=>rfl)
      · obtain ⟨k,mk,hk,hb'⟩:=hb
        by_cases h1:k=id
        · subst h1; rw [hgid] at hk; cases hk; exact hcc.sim.prok b ⟨k,m,hm,(hhas b).1 hb'⟩
        · rw [hget k h1] at hk; exact hcc.sim.prok b ⟨k,mk,hk,hb'⟩
      · simp only [look_mapV] at hx
        obtain ⟨x0,hx0,rfl⟩:=Option.map_eq_some_iff.1 hx
        obtain ⟨v,hv,hr⟩:=hcc.tmp t x0 hx0
        exact ⟨v,hv,hT.top _ _ hr⟩
    · cases h
  · cases h
attribute [simp] St.asGrid AV.gs AV.gk
def AV.kill2 (id j:Nat) (x:AV):AV:=if x.men id || x.men j then .dead else x
attribute [simp] AV.kill2
end
end Go.Sim
