/- Strings: decimal numerals, and a builder of a string, as contracts of this proof's own kind. -/
import Derived.Test.YtadlbdekaehipaaDoorMd
import Derived.Test.YtadlbdekaehipaaDoorIs
import Derived.Test.YtadlbdekaehipaaDoorIm
import Derived.Test.YtadlbdekaehipaaDoorRn
import Derived.Shelf.Strings.BuilderF
import Derived.Shelf.Strconv.Itoa3
set_option linter.unusedVariables false
set_option linter.unusedSimpArgs false
set_option linter.unusedVariables false
namespace Go.Sim
open Go.Proofs Go.Shelf Go.RowKit
abbrev strA (s:ByteArray):AV:=.val (.string s)
abbrev txtA (l:List UInt8):AV:=.val (.string (ba l))
abbrev txts (l:List (List UInt8)):AV:=.imm (l.map txtA)
variable {P:Program}
/-! ### worlds that only grew -/
theorem Sim.grown {w w' : World}{e:Env}{objs:List (Nat×Obj)}(h:Sim w e objs) (hsz:w.heap.size≤w'.heap.size) (hh:∀b,b<w.heap.size→w'.heap[b]?=w.heap[b]?) (hos:w'.os=w.os) (ht:w'.tape=w.tape) (ho:w'.output=w.output):Sim w' e objs∧Fr w e w' e:=by
  have hfr:Fr w e w' e:=⟨hos,ht,ho,hsz,fun b hb _=>hh b hb,fun b hb _=>hb,rfl,.refl e⟩
  refine ⟨⟨h.dom,h.inj,fun id o m h1 h2=>?_,h.prok,fun b hb=>h.new b (Nat.le_trans hsz hb)⟩,hfr⟩
  exact (h.obj id o m h1 h2).fr hfr (fun b hb=>hh b (h.blk_lt h2 hb)) (fun _ _=>rfl)
/-! ### numerals -/
def numS (n:Int):ByteArray:=⟨(Lib.itoa n).toArray⟩
structure Lb where
  L:List (Nat×Go.Obj)
  tab:∀g vs,(g,vs)∈seatT→vs≠[]∧∃t fz,(g,Go.Obj.cells vs.toArray t fz)∈L
  ok:∀w:World,(∀b o,(b,o)∈L→w.heap[b]?=some o)→LibW w
def libJ (L:List (Nat×Go.Obj)) (w:World) (m:Mta) (q:Nat→Prop):Prop:=m.blk=none∧m.cap=0∧(∀x,¬m.more x)∧∀b o,(b,o)∈L→w.heap[b]?=some o∧q b∧CellIn w b
theorem lib_at (ob:Lb) (g:Nat) (vs:List Value) (h:(g,vs)∈seatT) (w:World) (m:Mta) (q:Nat→Prop) (hj:libJ ob.L w m q):q g∧vs≠[]∧∀(j:Nat) (v:Value),vs[j]?=some v→w.cell? ⟨g,j,none⟩=some v:=by
  obtain ⟨h1,t,fz,h2⟩:=ob.tab g vs h
  obtain ⟨_,_,_,h3⟩:=hj
  obtain ⟨k1,k2,_⟩:=h3 _ _ h2
  exact ⟨k2,h1,fun j v hv=>by simp [World.cell?,k1,hv]⟩
def libC (ob:Lb):Cus:={ J:=libJ ob.L,fr:=false,tab:=seatT,tabOk:=lib_at ob }
theorem libC_stab (ob:Lb):CStab (libC ob):=by
  rintro w w' m m' q q' ⟨h1,h2,h3,h4⟩ e1 e2 e3 e4 e5 hb hq
  rcases hq with hq | hq
  · refine ⟨by rw [e1];exact h1,by rw [e2];exact h2,by rw [e5];exact h3,fun b o ho=>?_⟩
    obtain ⟨k1,k2,k3⟩:=h4 b o ho
    obtain ⟨g1,g2⟩:=hq b k2 k3
    exact ⟨g1.trans k1,g2,k3.of_same g1⟩
  · cases hq
@[reducible] noncomputable def tabO (ob:Lb):Obj:=.cus (libC ob)
@[simp] theorem libC_fr {ob:Lb}:(libC ob).fr=false:=rfl
@[simp] theorem libC_tab {ob:Lb}:(libC ob).tab=seatT:=rfl
theorem lib_of {ob:Lb}{w:World}{e:Env}{objs:List (Nat×Obj)}(hs:Sim w e objs) (ho:look 10900 objs=some (tabO ob)):LibW w:=by
  obtain ⟨m,hm⟩:=Option.isSome_iff_exists.1 (show (e.get 10900).isSome=true by rw [hs.dom,ho];rfl)
  have hc:CusOk w e m (libC ob):=hs.obj 10900 _ m ho hm
  obtain ⟨_,_,_,h4⟩:=hc.holds
  exact ob.ok w fun b o hb=>(h4 b o hb).1
theorem Conc.lib2 {st:St}{a:Act}{w:World}{e:Env}{ob:Lb}(h:Conc st a w e) (id:Nat) (hu:unp id=true) (ho:look 10900 st.objs=some (tabO ob)) :
    Conc (st.renew id (tabO ob)) a w (e.set id (mt none 0 0))∧Fr w e w (e.set id (mt none 0 0)):=by
  have hfr:Fr w e w (e.set id (mt none 0 0)):=by
    refine ⟨rfl,rfl,rfl,Nat.le_refl _,fun b hb _=>rfl,fun b ho hb=>?_,rfl,Pinned.of fun j hj=>by simp [Env.set,unp_ne hu hj]⟩
    obtain ⟨j,m,hj,hm⟩:=ho
    simp only [Env.set] at hj
    split at hj
    · cases hj;rw [Mta.has_mk] at hm;cases hm
    · exact ⟨j,m,hj,hm⟩
  obtain ⟨m,hm⟩:=Option.isSome_iff_exists.1 (show (e.get 10900).isSome=true by rw [h.sim.dom,ho];rfl)
  have hc:CusOk w e m (libC ob):=h.sim.obj 10900 _ m ho hm
  obtain ⟨_,_,_,h4⟩:=hc.holds
  refine ⟨h.renew id _ _ hfr (fun b hb=>by rw [Mta.has_mk] at hb;cases hb) (fun _ _ _ _ _ _=>rfl) ⟨⟨rfl,rfl,fun x k=>k.elim,fun b o hb=>?_⟩,fun hg=>absurd hg.2 (show (0:Nat)≠1 by decide),fun b hb=>(by rw [Mta.has_mk] at hb;cases hb),libC_stab _⟩ (fun b hb=>by rw [Mta.has_mk] at hb;cases hb),hfr⟩
  obtain ⟨k1,k2,k3⟩:=h4 b o hb
  exact ⟨k1,(hfr.q b k2 k3.lt).2,k3⟩
theorem Le.lib2 (ob:Lb) (id:Nat){st s2:St}(hu:unp id=true) (ho:look 10900 st.objs=some (tabO ob)) (h:st.renew id (tabO ob)=s2):Le st s2:=by
  subst h
  intro a w e hc
  exact ⟨_,hc.lib2 id hu ho⟩
theorem Itoa_ok (ob:Lb) (n:Int) (h0 : -9223372036854775808≤n) (h1:n≤9223372036854775807):ACalls Tryd.prog 27 [I n] [(10900,tabO ob)] (fun r o=>r = .val (.string (numS n))∧o=[(10900,tabO ob)]):=by
  refine ⟨⟨_,Tryd.func27,by kernel_rfl,by kernel_rfl⟩,fun w e vals hs hl hv=>?_⟩
  obtain ⟨v,hvv⟩:∃v,vals = #[v]:=by
    have:vals.size=1:=hl
    match vals,this with
    | ⟨[v]⟩,_=>exact ⟨v,rfl⟩
  subst hvv
  have hr:=hv 0 (I n) v rfl rfl
  have hvi:v = .int .i64 n:=hr.val_inv
  subst hvi
  have g3:=lib_tab (lib_of hs rfl)
  refine (Any.strconv_Itoa Tryd.laysM171 n h0 h1 w (tabIs_name g3 (by kernel_rfl))).mono ?_
  rintro en w' ⟨rfl,k,os,rfl⟩
  obtain ⟨a1,a2⟩:=hs.grown (w':=Go.Sort.grow (w.drewN k) os) (by simp [Go.Sort.grow]) (fun b hb=>by simp [Go.Sort.grow,Array.getElem?_append,hb]) rfl rfl rfl
  exact ⟨_,_,_,e,rfl,⟨rfl,rfl⟩,a1,a2,.data (.val _)⟩
/-! ### a builder -/
def boxC (T:TypeId) (u:Bool) (v:Value):Cus:={ J:=fun w m _=>∃b,m.blk=some b∧m.sz=2∧(∀x,¬m.more x)∧w.heap[b]?=some (.cells #[if u=true then .pointer (some ⟨b,0,none⟩) else .pointer none,v] T (0,0)),fr:=true,tab:=[],tabOk:=fun _ _ h=>by cases h }
def bufC (U:TypeId) (v:Value) (bs:List UInt8):Cus:={ J:=fun w m _=>m.blk=v.ownBlock∧m.cap=0∧(∀x,¬m.more x)∧w.ownsRowF 0 U 1 v bs.length (Lib.byteCells bs),fr:=true,tab:=[],tabOk:=fun _ _ h=>by cases h }
theorem boxC_stab (T:TypeId) (u:Bool) (v:Value):CStab (boxC T u v):=by
  rintro w w' m m' q q' ⟨b,h1,h2,h3,h4⟩ e1 e2 e3 e4 e5 hb hq
  exact ⟨b,by rw [e1];exact h1,by rw [e3];exact h2,by rw [e5];exact h3,by rw [hb b (.inl h1)];exact h4⟩
theorem bufC_stab (U:TypeId) (v:Value) (bs:List UInt8):CStab (bufC U v bs):=by
  rintro w w' m m' q q' ⟨h1,h2,h3,h4⟩ e1 e2 e3 e4 e5 hb hq
  refine ⟨by rw [e1];exact h1,by rw [e2];exact h2,by rw [e5];exact h3,h4.1, ?_⟩
  rcases h4.2 with h | ⟨g,cap,cur,fz,rfl,k1,k2,k3⟩
  · exact .inl h
  · exact .inr ⟨g,cap,cur,fz,rfl,k1,by rw [hb g (.inl h1)];exact k2,k3⟩
theorem run_append_str {w : World} {t u ty e : TypeId} {i : TypeInfo} (ht : P.underlying t = some (.slice e)) (hu : P.underlying u = some .string) (hi : P.info? e = some i) (hz : i.zero = some (.int .u8 0)) (hsize : i.size = 1) (hby : i.bytes = 1)
    {v:Value}{n:Nat}{xs:List Value}(hown:w.ownsRowF 0 e 1 v n xs) (s:ByteArray) (h63:n+s.size≤maxLen) (hbytes:n+s.size≤140737488355328) :
    ∃v' w',(Builtin.append_ #[t,u] ty #[v,.string s]).run P w = .ok v' w'∧w'.ownsRowF 0 e 1 v' (n+s.size) (xs++Lib.strCells s)∧w.grownBy w' v.ownBlock∧(v'.ownBlock=v.ownBlock∨∃g,v'.ownBlock=some g∧w.heap.size≤g):=by
  rcases hown.2 with ⟨rfl,rfl⟩ | ⟨g,cap,cur,fz,rfl,hbg,hg,hfz,hnc,hcm,hcs,htake⟩
  · obtain ⟨v',w',h1,h2,h3,h4⟩:=Lib.run_append_own_string (P:=P) w w.heap.size t u ty e i ht hu hi hz hsize hby (.slice none 0 0) 0 xs ⟨hown.1,.inl ⟨rfl,rfl⟩⟩ s h63 hbytes (Nat.le_refl _)
    have h5:=World.ownsRowF_of h2
    refine ⟨v',w',h1,⟨h5.1, ?_⟩,h3, ?_⟩
    · rcases h5.2 with h | ⟨g,cap,cur,fz,hv,k1,k2⟩
      · exact .inl h
      · exact .inr ⟨g,cap,cur,fz,hv,Nat.zero_le _,k2⟩
    · rcases h5.2 with ⟨h,_⟩ | ⟨g,cap,cur,fz,hv,k1,k2⟩
      · rw [h];exact .inl rfl
      · rw [hv];exact .inr ⟨g,rfl,k1⟩
  · have hsmall:n+s.size≤9223372036854775807:=by simp only [maxLen] at h63;omega
    have hxl:xs.length=n:=by simpa using hown.1
    have hlen:(xs++Lib.strCells s).length=(n+s.size) * 1:=by rw [List.length_append,hxl,Lib.strCells_length,Nat.mul_one]
    by_cases hroom:n+s.size≤cap
    · have hcs' : cur.size=cap:=by simpa using hcs
      have hr:=Lib.run_append_room_stringF (P:=P) w t u ty e i ht hu hi hsize g n cap cur fz hg (by simpa using hfz) s hroom (by omega)
      refine ⟨_,_,hr,⟨hlen,.inr ⟨g,cap,_,fz,rfl,hbg,setRow_heap w g cur _ e _ hg,by omega,hroom,hcm, ?_, ?_⟩⟩,⟨rfl,rfl,rfl,by simp,fun k _ hk=>setRow_other w g k _ (fun e=>hk (by simp [Value.ownBlock,e]))⟩,.inl rfl⟩
      · simp only [List.size_toArray,List.length_append,List.length_take,List.length_drop,Array.length_toList,Lib.strCells_length]
        omega
      · have ht' : cur.toList.take n=xs:=by simpa using htake
        rw [ht',←hlen]
        exact List.take_left
    · have holds:∀j u,xs[j]?=some u→w.cell? ((⟨g,0,none⟩:Addr).add j)=some u:=hown.cells (g:=g) rfl
      have hr:=Lib.run_append_grow_string (P:=P) w t u ty e i (.int .u8 0) ht hu hi hz ⟨g,0,none⟩ n cap xs (by rw [hsize];simpa using hxl) holds s (by omega) (by omega) (by rw [hby];exact growslice_fits (by omega) (by omega))
      have hge:=grownCap_ge w (n+s.size) cap e
      have hcm2:grownCap w (n+s.size) cap e≤maxLen:=grownCap_le_maxLen w (n+s.size) cap e h63
      refine ⟨_,_,hr,⟨hlen,.inr ⟨w.heap.size,_,_,(0,0),rfl,Nat.zero_le _,heap_alloc_new w.drew _,Nat.zero_le _,hge,hcm2, ?_, ?_⟩⟩,⟨rfl,rfl,rfl,by simp,fun k hk _=>by first | exact heap_alloc_old w.drew _ k hk | exact heap_alloc_old w.drew _ hk⟩,.inr ⟨w.heap.size,rfl,Nat.le_refl _⟩⟩
      · have hz1:(Value.int IntKind.u8 0).cells.size=1:=rfl
        simp only [Array.size_append,List.size_toArray,size_zeroCells,hz1,hxl,Lib.strCells_length]
        omega
      · simp only [Array.toList_append,List.append_assoc]
        rw [←List.append_assoc,←hlen]
        exact List.take_left
theorem wpList_append_str {w:World}{ops:Array Oper}{rest:List Oper}{o:Oper}{a:Act}{Q:Exit→Act→World→Prop}(hgd:o.guard=none) (sl x:Operand) (t u:TypeId)
    (ho:o.op = .call { callee:=.builtin .append,args:=#[sl,x],argTypes:=#[t,u] }){e:TypeId}{i:TypeInfo}(ht:P.underlying t=some (.slice e)) (hu:P.underlying u=some .string) (hi:P.info? e=some i) (hz:i.zero=some (.int .u8 0)) (hsize:i.size=1) (hby:i.bytes=1)
    {v:Value}{n:Nat}{xs:List Value}(hs:a.eval sl=v) (hown:w.ownsRowF 0 e 1 v n xs) (s:ByteArray) (hx:a.eval x = .string s) (h63:n+s.size≤maxLen) (hbytes:n+s.size≤140737488355328)
    (h:∀v' w',w'.ownsRowF 0 e 1 v' (n+s.size) (xs++Lib.strCells s)→w.grownBy w' v.ownBlock→(v'.ownBlock=v.ownBlock∨∃g,v'.ownBlock=some g∧w.heap.size≤g)→wpList P ops Q rest (a.put o.dst v') w'):wpList P ops Q (o :: rest) a w:=by
  refine wpList_plain hgd fun K hK=>?_
  obtain ⟨v',w',hr,h2,h3,h4⟩:=run_append_str (P:=P) (ty:=o.type) ht hu hi hz hsize hby hown s h63 hbytes
  unfold Oper.wp execOp
  simp only [ho,resolve,invoke,builtin,Sem.run_bind,Sem.run_pure,Result.andThen_ok,List.map_toArray,List.map_cons,List.map_nil,hs,hx,hr]
  exact hK _ _ (h v' w' h2 h3 h4)
structure Wrote (w w' : World) (b:Nat) (v v' : Value):Prop where
  keep:∀k,k<w.heap.size→k≠b→v.ownBlock≠some k→w'.heap[k]?=w.heap[k]?
  at_:v'.ownBlock=v.ownBlock∨∃g,v'.ownBlock=some g∧w.heap.size≤g
  size:w.heap.size≤w'.heap.size
  os:w'.os=w.os
  tape:w'.tape=w.tape
  output:w'.output=w.output
theorem bldSize:(Tryd.prog.info? 70).map (·.size)=some 2:=by kernel_rfl
theorem byteInfo:(Tryd.prog.info? 5).map (fun i=>(i.zero,i.size,i.bytes))=some (some (.int .u8 0),1,1):=by kernel_rfl
theorem bldLies:liesAt Tryd.prog Tryd.prog.depth 70 (2 / Tryd.prog.cellsOf 70) 0 70 1=true:=by kernel_rfl
set_option maxRecDepth 100000 in
theorem cc_used (b:Nat) (w:World) (h0:w.cell? ⟨b,0,none⟩=some (.pointer (some ⟨b,0,none⟩))) :
    Calls Tryd.prog 39 #[.pointer (some ⟨b,0,none⟩)] w fun e w'=>e = .returned (.tuple #[])∧w'=w:=by
  obtain ⟨j,hj,hjs⟩:=Option.map_eq_some_iff.1 bldSize
  go_enter Tryd.func39,Tryd.ntmps39
  go_wp2
  rw [Lib.run_neq_ptr_same w _ Tryd.underlying67 hj]
  go_wp2
  go_end0
  exact ⟨rfl,rfl⟩
set_option maxHeartbeats 1000000 in
set_option maxRecDepth 100000 in
theorem cc_fresh (b:Nat) (w:World) (h0:w.cell? ⟨b,0,none⟩=some (.pointer none)) (hsh:w.shape? b=some (70,2)) (hfz:w.frozen? ⟨b,0,none⟩=false) :
    Calls Tryd.prog 39 #[.pointer (some ⟨b,0,none⟩)] w fun e w'=>e = .returned (.tuple #[])∧w'=w.setCell ⟨b,0,none⟩ (.pointer (some ⟨b,0,none⟩)):=by
  obtain ⟨j,hj,hjs⟩:=Option.map_eq_some_iff.1 bldSize
  go_enter Tryd.func39,Tryd.ntmps39
  go_wp2
  rw [Lib.run_to_unsafe w ⟨b,0,none⟩ Tryd.underlying67 Tryd.underlying104 hj (by rw [hjs];decide) hsh (Nat.zero_lt_succ 1)]
  simp only [Result.andThen]
  rw [Oper.upon_value]
  go_wp2
  rw [run_callFunc_extern Tryd.func47 (by kernel_rfl) (by kernel_rfl) (by kernel_rfl) (e:=Extern.AbiNoEscape.same) (by kernel_rfl)]
  rw [Lib.run_noEscape]
  simp only [Result.andThen]
  rw [Oper.upon_value]
  go_wp2
  rw [Lib.run_from_unsafe w ⟨b,0,none⟩ Tryd.underlying104 Tryd.underlying67 hj hsh bldLies]
  simp only [Result.andThen]
  rw [Oper.upon_value]
  go_wp2
  go_end0
  exact ⟨rfl,rfl⟩
theorem cc_run (b:Nat) (u:Bool) (v:Value) (w:World) (hb:w.heap[b]?=some (.cells #[if u=true then .pointer (some ⟨b,0,none⟩) else .pointer none,v] 70 (0,0))) :
    Calls Tryd.prog 39 #[.pointer (some ⟨b,0,none⟩)] w fun e w'=>e = .returned (.tuple #[])∧w'.heap[b]?=some (.cells #[.pointer (some ⟨b,0,none⟩),v] 70 (0,0))∧(∀k,k≠b→w'.heap[k]?=w.heap[k]?)∧w'.heap.size=w.heap.size∧w'.os=w.os∧w'.tape=w.tape∧w'.output=w.output:=by
  cases u with
  | true =>
    refine (cc_used b w (by simp [World.cell?,hb])).mono ?_
    rintro e w' ⟨rfl,rfl⟩
    exact ⟨rfl,hb,fun _ _=>rfl,rfl,rfl,rfl,rfl⟩
  | false =>
    refine (cc_fresh b w (by simp [World.cell?,hb]) (by simp [World.shape?,hb]) (by simp [World.frozen?,hb])).mono ?_
    rintro e w' ⟨rfl,rfl⟩
    refine ⟨rfl,by simp [World.setCell,Array.getElem?_modify,hb],fun k hk=>Below.heap_setCell _ _ _ _ (fun e=>hk e),by simp [World.setCell],rfl,rfl,rfl⟩
set_option maxHeartbeats 2000000 in
set_option maxRecDepth 100000 in
theorem ws_run (b:Nat) (u:Bool) (v:Value) (bs:List UInt8) (s:ByteArray) (w:World) (hb:w.heap[b]?=some (.cells #[if u=true then .pointer (some ⟨b,0,none⟩) else .pointer none,v] 70 (0,0)))
    (hown:w.ownsRowF 0 5 1 v bs.length (Lib.byteCells bs)) (hne:v.ownBlock≠some b) (hlen:bs.length+s.size≤140737488355328) :
    Calls Tryd.prog 28 #[.pointer (some ⟨b,0,none⟩),.string s] w fun e w'=>e = .returned (.tuple #[.int .i64 s.size,.nilIface])∧∃v',w'.heap[b]?=some (.cells #[.pointer (some ⟨b,0,none⟩),v'] 70 (0,0))∧w'.ownsRowF 0 5 1 v' (bs++s.data.toList).length (Lib.byteCells (bs++s.data.toList))∧Wrote w w' b v v':=by
  obtain ⟨i0,hi,hz0,hz1,hz2⟩:=info_parts byteInfo
  have hlt:b<w.heap.size:=by
    rcases Nat.lt_or_ge b w.heap.size with h' | h'
    · exact h'
    · simp [Array.getElem?_eq_none h'] at hb
  go_enter Tryd.func28,Tryd.ntmps28
  go_wp2_with (go_at_call 39;refine (cc_run b u v _ hb).mono ?_)
  rintro e w1 ⟨rfl,hbk,hk1,hs1,ho1,ht1,hp1⟩
  have hown1:w1.ownsRowF 0 5 1 v bs.length (Lib.byteCells bs):=by
    refine ⟨hown.1, ?_⟩
    rcases hown.2 with h | ⟨g,cap,cur,fz,hv,q1,q2,q3⟩
    · exact .inl h
    · exact .inr ⟨g,cap,cur,fz,hv,q1,by rw [hk1 g (fun h=>hne (by rw [hv,h];rfl))];exact q2,q3⟩
  have c0:w1.cell? ⟨b,0,none⟩=some (.pointer (some ⟨b,0,none⟩)):=by rw [Lib.cell_of_heap hbk];rfl
  have c1:w1.cell? ⟨b,1,none⟩=some v:=by rw [Lib.cell_of_heap hbk];rfl
  go_wp2_with (at_builtin;refine wpList_append_str rfl _ _ 68 9 rfl Tryd.underlying68 Tryd.underlying9 hi hz0 hz1 hz2 rfl hown1 s rfl ?c3 ?c4 ?_)
  case c3=>unfold maxLen;omega
  case c4=>omega
  intro v' w2 hown' hgrow hat
  have hb2:w2.heap[b]?=some (.cells #[.pointer (some ⟨b,0,none⟩),v] 70 (0,0)):=by
    rw [hgrow.block b (by omega) (fun e=>hne e.symm)]
    exact hbk
  have d0:w2.cell? ⟨b,0,none⟩=some (.pointer (some ⟨b,0,none⟩)):=by rw [Lib.cell_of_heap hb2];rfl
  have d1:w2.cell? ⟨b,1,none⟩=some v:=by rw [Lib.cell_of_heap hb2];rfl
  have f1:w2.frozen? ⟨b,1,none⟩=false:=Lib.frozen_of_heap hb2 1
  have hne2:v'.ownBlock≠some b:=by
    rcases hat with h | ⟨g,h,hg⟩
    · rw [h];exact hne
    · rw [h];intro h2;cases h2;omega
  obtain ⟨ao,n',cap,rfl⟩:∃ao n' cap,v' = .slice ao n' cap:=by
    rcases hown'.2 with ⟨hv,_⟩ | ⟨g,cap,cur,fz,hv,_⟩
    · exact ⟨_,_,_,hv⟩
    · exact ⟨_,_,_,hv⟩
  go_wp2
  go_ret2
  have hset:∀k,k≠b→(w2.setCell ⟨b,1,none⟩ (.slice ao n' cap)).heap[k]?=w2.heap[k]?:=fun k hk=>Below.heap_setCell _ _ _ _ (fun e=>hk e)
  refine ⟨rfl,.slice ao n' cap,by simp [World.setCell,Array.getElem?_modify,hb2], ?_,⟨fun k hk hkb hkv=>?_, ?_, ?_, ?_, ?_, ?_⟩⟩
  · rw [Lib.byteCells_append,←Lib.strCells_eq,List.length_append]
    refine ⟨by simpa using hown'.1, ?_⟩
    rcases hown'.2 with h | ⟨g,cp,cur,fz,hv,q1,q2,q3⟩
    · exact .inl h
    · exact .inr ⟨g,cp,cur,fz,hv,q1,by rw [hset g (fun h=>hne2 (by rw [hv,h];rfl))];exact q2,q3⟩
  · rw [hset k hkb,hgrow.block k (by omega) (fun e=>hkv e.symm),hk1 k hkb]
  · rcases hat with h | ⟨g,h,hg⟩
    · exact .inl h
    · exact .inr ⟨g,h,by omega⟩
  · have:=hgrow.size
    simp [World.setCell];omega
  · exact hgrow.os.trans ho1
  · exact hgrow.tape.trans ht1
  · exact hgrow.output.trans hp1
theorem two_vals {vals:Array Value}(h:vals.size=2):∃x y,vals = #[x,y]:=by
  match vals,h with
  | ⟨[x,y]⟩,_=>exact ⟨x,y,rfl⟩
structure BldAt (w:World) (e:Env) (T U:TypeId) (u:Bool) (v:Value) (bs:List UInt8) (b:Nat) (m0 m1:Mta):Prop where
  g0:e.get 10000=some m0
  g1:e.get 15000=some m1
  blk:m0.blk=some b
  sz:m0.sz=2
  more0:∀x,¬m0.more x
  cells:w.heap[b]?=some (.cells #[if u=true then .pointer (some ⟨b,0,none⟩) else .pointer none,v] T (0,0))
  blk1:m1.blk=v.ownBlock
  cap1:m1.cap=0
  more1:∀x,¬m1.more x
  owns:w.ownsRowF 0 U 1 v bs.length (Lib.byteCells bs)
  ne:v.ownBlock≠some b
theorem bldAt {w:World}{e:Env}{T U:TypeId}{u:Bool}{v:Value}{bs:List UInt8}(hs:Sim w e [(10000,.cus (boxC T u v)),(15000,.cus (bufC U v bs))]):∃b m0 m1,BldAt w e T U u v bs b m0 m1:=by
  obtain ⟨m0,h0⟩:=Option.isSome_iff_exists.1 (show (e.get 10000).isSome=true by rw [hs.dom];rfl)
  obtain ⟨m1,h1⟩:=Option.isSome_iff_exists.1 (show (e.get 15000).isSome=true by rw [hs.dom];rfl)
  have o0:CusOk w e m0 (boxC T u v):=hs.obj 10000 _ m0 rfl h0
  have o1:CusOk w e m1 (bufC U v bs):=hs.obj 15000 _ m1 rfl h1
  obtain ⟨b,a1,a2,a3,a4⟩:=o0.holds
  obtain ⟨c1,c2,c3,c4⟩:=o1.holds
  refine ⟨b,m0,m1,h0,h1,a1,a2,a3,a4,c1,c2,c3,c4,fun hn=>?_⟩
  have:=hs.inj 10000 15000 m0 m1 b h0 h1 (.inl a1) (.inl (c1.trans hn))
  omega
theorem BldAt.ptr {w:World}{e:Env}{T U:TypeId}{u:Bool}{v:Value}{bs:List UInt8}{b:Nat}{m0 m1:Mta}(h:BldAt w e T U u v bs b m0 m1){p:Value}(hp:Rd w e (.ptr 10000 0 0) p):p = .pointer (some ⟨b,0,none⟩):=by
  cases hp with
  | data hp=>cases hp
  | ptr _ _ _ m b' hm hb' =>
    rw [h.g0] at hm;cases hm
    rw [h.blk] at hb';cases hb'
    simp
  | ptrX _ _ _ m hm hg a =>
    rw [h.g0] at hm;cases hm
    rw [Mta.gone,h.blk] at hg
    exact absurd hg.1 (by simp)
theorem BldAt.wrote {w w' : World}{e:Env}{T U:TypeId}{u u' : Bool}{v v' : Value}{bs bs' : List UInt8}{b:Nat}{m0 m1:Mta}(hs:Sim w e [(10000,.cus (boxC T u v)),(15000,.cus (bufC U v bs))]) (h:BldAt w e T U u v bs b m0 m1) (W:Wrote w w' b v v')
    (q1:w'.heap[b]?=some (.cells #[if u'=true then .pointer (some ⟨b,0,none⟩) else .pointer none,v'] T (0,0))) (q2:w'.ownsRowF 0 U 1 v' bs'.length (Lib.byteCells bs')) :
    ∃e',Sim w' e' [(10000,.cus (boxC T u' v')),(15000,.cus (bufC U v' bs'))]∧Fr w e w' e':=by
  let m1' : Mta:={ m1 with blk:=v'.ownBlock }
  have hb1:∀x,m1'.has x↔v'.ownBlock=some x:=fun x=>⟨fun hx=>hx.elim id fun hm=>absurd hm (h.more1 x),.inl⟩
  have hb0:∀x,m1.has x↔v.ownBlock=some x:=fun x=>⟨fun hx=>hx.elim (fun k=>h.blk1.symm.trans k) fun hm=>absurd hm (h.more1 x),fun k=>.inl (h.blk1.trans k)⟩
  have hx0:∀x,m0.has x↔x=b:=fun x=>⟨fun hx=>hx.elim (fun k=>by rw [h.blk] at k;cases k;rfl) fun hm=>absurd hm (h.more0 x),fun k=>.inl (k▸h.blk)⟩
  have hcase:∀x,v'.ownBlock=some x→m1.has x∨w.heap.size≤x:=fun x hx=>by
    rcases W.at_ with k | ⟨g,k,hg⟩
    · exact .inl ((hb0 x).2 (k.symm.trans hx))
    · rw [k] at hx;cases hx;exact .inr hg
  have hget:∀i m,(e.set 15000 m1').get i=some m→(i=15000∧m=m1')∨(i≠15000∧e.get i=some m):=fun i m hi=>by
    simp only [Env.set] at hi
    split at hi
    · rename_i k;cases hi;exact .inl ⟨k,rfl⟩
    · rename_i k;exact .inr ⟨k,hi⟩
  have hfr:Fr w e w' (e.set 15000 m1'):=by
    refine ⟨W.os,W.tape,W.output,W.size,fun x hx hn=>W.keep x hx (fun k=>hn ⟨10000,m0,h.g0,(hx0 x).2 k⟩) (fun k=>hn ⟨15000,m1,h.g1,(hb0 x).2 k⟩),fun x ⟨i,m,hi,hm⟩ hx=>?_,rfl,Pinned.of fun j hj=>by
      have:j≠15000:=fun k=>by subst k;simp [unp] at hj
      simp [Env.set,this]⟩
    rcases hget i m hi with ⟨rfl,rfl⟩ | ⟨_,k⟩
    · rcases hcase x ((hb1 x).1 hm) with k | k
      · exact ⟨15000,m1,h.g1,k⟩
      · omega
    · exact ⟨i,m,k,hm⟩
  refine ⟨e.set 15000 m1',⟨fun i=>?_,fun i j mi mj x hi hj hxi hxj=>?_,fun i o m ho hm=>?_,fun x ⟨i,m,hi,hm⟩=>?_,fun x hx=>hs.new x (Nat.le_trans W.size hx)⟩,hfr⟩
  · have:=hs.dom i
    simp only [look] at this ⊢
    by_cases k:i=15000
    · subst k;simp [Env.set]
    · simp only [Env.set,if_neg k,this]
      by_cases k2:i=10000
      · subst k2;simp
      · rw [if_neg (Ne.symm k2),if_neg (Ne.symm k),if_neg (Ne.symm k2),if_neg (Ne.symm k)]
  · rcases hget i mi hi with ⟨rfl,rfl⟩ | ⟨ni,ki⟩ <;> rcases hget j mj hj with ⟨rfl,rfl⟩ | ⟨nj,kj⟩
    · rfl
    · rcases hcase x ((hb1 x).1 hxi) with k | k
      · exact hs.inj _ _ _ _ x h.g1 kj k hxj
      · have:=hs.blk_lt kj hxj;omega
    · rcases hcase x ((hb1 x).1 hxj) with k | k
      · exact hs.inj _ _ _ _ x ki h.g1 hxi k
      · have:=hs.blk_lt ki hxi;omega
    · exact hs.inj _ _ _ _ x ki kj hxi hxj
  · simp only [look] at ho
    split at ho
    · rename_i k;subst k;cases ho
      rcases hget _ m hm with ⟨k,_⟩ | ⟨_,k⟩
      · omega
      rw [h.g0] at k;cases k
      refine ⟨⟨b,h.blk,h.sz,h.more0,q1⟩,fun hg=>?_,fun x hx=>?_,boxC_stab _ _ _⟩
      · rw [Mta.gone,h.blk] at hg;exact absurd hg.1 (by simp)
      · rw [(hx0 x).1 hx];exact (Array.getElem?_eq_some_iff.1 q1).1
    · split at ho
      · rename_i k;subst k;cases ho
        rcases hget _ m hm with ⟨_,k⟩ | ⟨k,_⟩
        · subst k
          refine ⟨⟨rfl,h.cap1,h.more1,q2⟩,fun hg=>?_,fun x hx=>?_,bufC_stab _ _ _⟩
          · have:=hg.2
            have h2:m1'.cap=0:=h.cap1
            omega
          · have hx2:=(hb1 x).1 hx
            rcases q2.2 with ⟨hv,_⟩ | ⟨g,cap,cur,fz,hv,_,k2,_⟩
            · rw [hv] at hx2;cases hx2
            · rw [hv] at hx2;cases hx2;exact (Array.getElem?_eq_some_iff.1 k2).1
        · exact absurd rfl k
      · cases ho
  · rcases hget i m hi with ⟨rfl,rfl⟩ | ⟨_,k⟩
    · rcases hcase x ((hb1 x).1 hm) with k | k
      · exact hs.prok x ⟨15000,m1,h.g1,k⟩
      · exact hs.new x k
    · exact hs.prok x ⟨i,m,k,hm⟩
theorem WriteString_ok (u:Bool) (v:Value) (bs:List UInt8) (s:ByteArray) (hlen:bs.length+s.size≤140737488355328) :
    ACalls Tryd.prog 28 [.ptr 10000 0 0,.val (.string s)] [(10000,.cus (boxC 70 u v)),(15000,.cus (bufC 5 v bs))] (fun r o=>∃v' : Value,r = .tup [I s.size,.val .nilIface]∧o=[(10000,.cus (boxC 70 true v')),(15000,.cus (bufC 5 v' (bs++s.data.toList)))]∧True):=by
  refine ⟨⟨_,Tryd.func28,by kernel_rfl,by kernel_rfl⟩,fun w e vals hs hl hv=>?_⟩
  obtain ⟨p,q,rfl⟩:=two_vals hl
  obtain ⟨b,m0,m1,h⟩:=bldAt hs
  obtain rfl:=h.ptr (hv 0 _ p rfl rfl)
  have hq:q = .string s:=(hv 1 (.val (.string s)) q rfl rfl).val_inv
  subst hq
  refine (ws_run b u v bs s w h.cells h.owns h.ne hlen).mono ?_
  rintro en w' ⟨rfl,v',q1,q2,W⟩
  obtain ⟨e',k1,k2⟩:=h.wrote hs W (u':=true) (by simpa using q1) q2
  refine ⟨_,_,_,e',rfl,⟨v',rfl,rfl,trivial⟩,k1,k2, ?_⟩
  refine .tup _ _ rfl fun i x y hx hy=>?_
  match i,hx,hy with
  | 0,hx,hy=>cases hx;cases hy;exact .data (.val _)
  | 1,hx,hy=>cases hx;cases hy;exact .data (.val _)
theorem cellsByte:Tryd.prog.cellsOf 5=1:=by kernel_rfl
theorem freeze_heap (w:World) (g n k:Nat) (hk:k≠g):(w.freeze ⟨g,0,none⟩ n).heap[k]?=w.heap[k]?:=by
  unfold World.freeze
  split
  · rfl
  · simp only [Array.getElem?_modify]
    rw [if_neg (fun e=>hk e.symm)]
theorem freeze_size (w:World) (p:Addr) (n:Nat):(w.freeze p n).heap.size=w.heap.size:=by
  unfold World.freeze
  split
  · rfl
  · simp
theorem freeze_rest (w:World) (p:Addr) (n:Nat):(w.freeze p n).os=w.os∧(w.freeze p n).tape=w.tape∧(w.freeze p n).output=w.output:=by
  unfold World.freeze
  split<;>exact ⟨rfl,rfl,rfl⟩
set_option maxHeartbeats 1000000 in
set_option maxRecDepth 100000 in
theorem str_run (b:Nat) (u:Bool) (v:Value) (bs:List UInt8) (w:World) (hb:w.heap[b]?=some (.cells #[if u=true then .pointer (some ⟨b,0,none⟩) else .pointer none,v] 70 (0,0)))
    (hown:w.ownsRowF 0 5 1 v bs.length (Lib.byteCells bs)) (hne:v.ownBlock≠some b) (h0:bs≠[]) :
    Calls Tryd.prog 30 #[.pointer (some ⟨b,0,none⟩)] w fun e w'=>e = .returned (.string ⟨bs.toArray⟩)∧w'.heap[b]?=w.heap[b]?∧w'.ownsRowF 0 5 1 v bs.length (Lib.byteCells bs)∧Wrote w w' b v v:=by
  obtain ⟨p,hp⟩:∃p,(if u=true then Value.pointer (some ⟨b,0,none⟩) else .pointer none)=p:=⟨_,rfl⟩
  rw [hp] at hb
  have hl0:bs.length≠0:=by simpa using h0
  obtain ⟨g,cap,cur,fz,rfl,hbg,hg,hfz,hnc,hcm,hcs,htake⟩:∃g cap cur fz,v = .slice (some ⟨g,0,none⟩) bs.length cap∧0≤g∧w.heap[g]?=some (.cells cur 5 fz)∧fz.2≤bs.length * 1∧bs.length≤cap∧cap≤maxLen∧cur.size=cap * 1∧cur.toList.take (bs.length * 1)=Lib.byteCells bs:=by
    rcases hown.2 with ⟨_,hz⟩ | ⟨g,cap,cur,fz,hv,r⟩
    · exact absurd hz hl0
    · exact ⟨g,cap,cur,fz,hv,r⟩
  have c1:w.drew.cell? ⟨b,1,none⟩=some (.slice (some ⟨g,0,none⟩) bs.length cap):=by
    have:w.drew.heap[b]?=some (.cells #[p,.slice (some ⟨g,0,none⟩) bs.length cap] 70 (0,0)):=hb
    rw [Lib.cell_of_heap this];rfl
  have hSD:(Builtin.unsafeSliceData_ #[68] 93 #[.slice (some ⟨g,0,none⟩) bs.length cap]).run Tryd.prog w.drew = .ok (.pointer (some ⟨g,0,none⟩)) w.drew:=
    Lib.run_unsafeSliceData_row _ _ _ _ _ _ (by omega)
  have hUS:(Builtin.unsafeString_ #[93,3] 9 #[.pointer (some ⟨g,0,none⟩),.int .i64 bs.length]).run Tryd.prog w.drew = .ok (.string ⟨bs.toArray⟩) (w.drew.freeze ⟨g,0,none⟩ bs.length):=by
    refine Lib.run_unsafeString_row w.drew 93 3 9 5 Tryd.underlying93 cellsByte g cur.size (by have hg' : w.drew.heap[g]?=some (.cells cur 5 fz):=hg;simp [World.shape?,hg']) bs h0 (by omega) (by unfold maxLen at hcm;omega) ?_
    intro j x hx
    have:=hown.cells (g:=g) rfl j (.int .u8 x.toNat) (by simp [Lib.byteCells,hx])
    exact this
  have hA:Lib.BuilderAtF 70 5 0 b p (Lib.byteCells bs) w.drew:=⟨Nat.zero_le _,_,hb,by rw [Lib.byteCells_length];exact hown,hne⟩
  have hF:=hA.froze (g:=g) (cap:=cap) (by rw [Lib.byteCells_length];exact c1)
  rw [Lib.byteCells_length] at hF
  have hgb:b≠g:=fun e=>hne (by rw [←e];rfl)
  have hbk:(w.drew.freeze ⟨g,0,none⟩ bs.length).heap[b]?=w.heap[b]?:=freeze_heap _ _ _ _ hgb
  have hkeep:(w.drew.freeze ⟨g,0,none⟩ bs.length).ownsRowF 0 5 1 (.slice (some ⟨g,0,none⟩) bs.length cap) bs.length (Lib.byteCells bs):=by
    obtain ⟨_,v2,k1,k2,_⟩:=hF
    rw [hbk,hb] at k1
    have e:v2 = .slice (some ⟨g,0,none⟩) bs.length cap:=by
      simp only [Option.some.injEq,Go.Obj.cells.injEq] at k1
      have:=k1.1
      simp at this
      exact this.symm
    rw [e,Lib.byteCells_length] at k2
    exact k2
  have hW:Wrote w (w.drew.freeze ⟨g,0,none⟩ bs.length) b (.slice (some ⟨g,0,none⟩) bs.length cap) (.slice (some ⟨g,0,none⟩) bs.length cap):=
    ⟨fun k _ _ hk=>freeze_heap _ _ _ _ (fun e=>hk (by rw [e];rfl)),.inl rfl,by rw [freeze_size];exact Nat.le_refl _,(freeze_rest _ _ _).1,(freeze_rest _ _ _).2.1,(freeze_rest _ _ _).2.2⟩
  have mixed:Tryd.prog.follows .mixedOrders=true:=by kernel_rfl
  go_enter Tryd.func30,Tryd.ntmps30
  go_wp2
  go_region_o
  all_goals (go_wp2;go_ret;exact ⟨rfl,hbk,hkeep,hW⟩)
theorem String_ok (u:Bool) (v:Value) (bs:List UInt8) (h0:bs≠[]) :
    ACalls Tryd.prog 30 [.ptr 10000 0 0] [(10000,.cus (boxC 70 u v)),(15000,.cus (bufC 5 v bs))] (fun r o=>r = .val (.string ⟨bs.toArray⟩)∧o=[(10000,.cus (boxC 70 u v)),(15000,.cus (bufC 5 v bs))]):=by
  refine ⟨⟨_,Tryd.func30,by kernel_rfl,by kernel_rfl⟩,fun w e vals hs hl hv=>?_⟩
  obtain ⟨p,rfl⟩:∃p,vals = #[p]:=by
    have:vals.size=1:=hl
    match vals,this with
    | ⟨[v]⟩,_=>exact ⟨v,rfl⟩
  obtain ⟨b,m0,m1,h⟩:=bldAt hs
  obtain rfl:=h.ptr (hv 0 _ p rfl rfl)
  refine (str_run b u v bs w h.cells h.owns h.ne h0).mono ?_
  rintro en w' ⟨rfl,q1,q2,W⟩
  obtain ⟨e',k1,k2⟩:=h.wrote hs W (u':=u) (q1.trans h.cells) q2
  exact ⟨_,_,_,e',rfl,⟨rfl,rfl⟩,k1,k2,.data (.val _)⟩
end Go.Sim
