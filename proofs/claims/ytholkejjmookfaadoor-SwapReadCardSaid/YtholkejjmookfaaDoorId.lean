/- Texts taken apart: strings.Split, strconv.Atoi, as contracts of this proof's own kind. -/
import Derived.Test.YtholkejjmookfaaDoorIa
import Derived.Test.YtholkejjmookfaaDoorIr
import Derived.Test.YtholkejjmookfaaDoorRn
import Derived.Shelf.Strings.Split
import Derived.Shelf.Strconv.AtoiAll
set_option linter.unusedVariables false
set_option linter.unusedSimpArgs false
set_option linter.unusedVariables false
namespace Go.Sim
open Go.Proofs Go.Shelf Go.RowKit
abbrev strA (s:ByteArray):AV:=.val (.string s)
abbrev txtA (l:List UInt8):AV:=.val (.string (ba l))
abbrev txts (l:List (List UInt8)):AV:=.imm (l.map txtA)
theorem one_val {vals:Array Value}(hl:vals.size=1):∃v,vals = #[v]:=by
  match vals,hl with
  | ⟨[v]⟩,_=>exact ⟨v,rfl⟩
theorem new_strs {w:World}{e:Env}{objs:List (Nat×Obj)}(hs:Sim w e objs) (ps:List ByteArray) (t:TypeId) (hne:ps≠[]) (hlen:ps.length≤maxLen) :
    RdD (w.alloc (.cells (ps.map Value.string).toArray t)) e.q (.imm (ps.map strA)) (.slice (some ⟨w.heap.size,0,none⟩) ps.length ps.length):=by
  have hnew:(w.alloc (.cells (ps.map Value.string).toArray t)).heap[w.heap.size]?=some (.cells (ps.map Value.string).toArray t (0,0)):=heap_alloc_new w _
  have e1:ps.length=(ps.map strA).length:=by simp
  have hq:e.q w.heap.size:=⟨hs.new _ (Nat.le_refl _),fun ⟨id,m,h1,h2⟩=>by have:=hs.blk_lt h1 h2;omega⟩
  have key:∀(i:Nat) (x:AV),(ps.map strA)[i]?=some x→∃p,ps[i]?=some p∧x=strA p:=by
    intro i x hx
    rw [List.getElem?_map] at hx
    obtain ⟨p,hp,rfl⟩:=Option.map_eq_some_iff.1 hx
    exact ⟨p,hp,rfl⟩
  have:=RdD.imm (w:=w.alloc (.cells (ps.map Value.string).toArray t)) (q:=e.q) (ps.map strA) w.heap.size 0 ps.length 1 (fun i _=>(ps[i]?.map Value.string).getD .nilIface) (by simpa using hne) (by decide) hq (by rw [←e1];exact hlen) (by rw [←e1];exact Nat.le_refl _)
    (fun x hx=>by obtain ⟨p,_,rfl⟩:=List.mem_map.1 hx;rfl)
    (fun i x hx j y hy=>by
      obtain ⟨p,hp,rfl⟩:=key i x hx
      cases j with
      | succ j=>simp [AV.cells] at hy
      | zero=>exact ⟨by rw [Lib.cell_of_heap hnew];simp [hp],by rw [hp];rfl⟩)
    (fun i x hx j y hy=>by
      obtain ⟨p,hp,rfl⟩:=key i x hx
      cases j with
      | succ j=>simp [AV.cells] at hy
      | zero=>simp [AV.cells] at hy;subst hy;rw [hp];exact .val _)
  rwa [←e1] at this
theorem lib_max {w:World}(h:LibW w):∃m,w.cell? ⟨1,0,none⟩=some (.int .i64 m):=h.2.1
theorem lib_syn {w:World}(h:LibW w):ErrAt w 2:=h.2.2.1
theorem lib_rng {w:World}(h:LibW w):ErrAt w 3:=h.2.2.2
theorem Split_ok (ob:Lb) (s:ByteArray) (c:UInt8) (hl:s.size≤1000000):ACalls Tryd.prog 30 [strA s,.val (.string ⟨#[c]⟩)] [(10900,tabO ob)] (fun r o=>r=txts (spl c [] s.data.toList)∧o=[(10900,tabO ob)]):=by
  refine ⟨⟨_,Tryd.func30,by kernel_rfl,by kernel_rfl⟩,fun w e vals hs hvl hv=>?_⟩
  obtain ⟨p,q,rfl⟩:=two_vals hvl
  have hp:p = .string s:=(hv 0 (strA s) p rfl rfl).val_inv
  have hq:q = .string ⟨#[c]⟩:=(hv 1 (.val (.string ⟨#[c]⟩)) q rfl rfl).val_inv
  subst hp;subst hq
  obtain ⟨m,hm⟩:=lib_max (lib_of hs rfl)
  have e1:(⟨#[c]⟩:ByteArray)=ba [c]:=rfl
  refine (Any.strings_Split Tryd.lays146 Tryd.hi9 s ⟨#[c]⟩ m w (by omega) hm (Nat.le_refl 1)).mono ?_
  rintro en w' ⟨rfl,rfl⟩
  have hsp:Lib.splitB ⟨#[c]⟩ 0 (Lib.countB s ⟨#[c]⟩) s=(spl c [] s.data.toList).map ba:=splitB_spl c s
  have hsl:(Lib.splitB ⟨#[c]⟩ 0 (Lib.countB s ⟨#[c]⟩) s).length=Lib.countB s ⟨#[c]⟩ + 1:=Lib.splitB_all (⟨#[c]⟩:ByteArray) (Nat.le_refl 1) 0 _ s rfl
  have hle:=spl_len (c:=c) (l:=s.data.toList) (cur:=[])
  have hsz:s.data.toList.length=s.size:=Array.length_toList
  rw [hsp] at hsl ⊢
  rw [←hsl]
  obtain ⟨a1,a2⟩:=hs.grown (w':=w.alloc (.cells (((spl c [] s.data.toList).map ba).map Value.string).toArray _)) (by simp) (fun b hb=>heap_alloc_old w _ hb) rfl rfl rfl
  refine ⟨_,_,_,e,rfl,⟨rfl,rfl⟩,a1,a2, ?_⟩
  have:=new_strs hs ((spl c [] s.data.toList).map ba) (Tryd.lays146_ren.t 9) (by simpa using spl_ne) (by rw [List.length_map];unfold maxLen;omega)
  have e9:((spl c [] s.data.toList).map ba).map strA=(spl c [] s.data.toList).map txtA:=by rw [List.map_map];rfl
  rw [e9] at this
  exact .data this
def atoiV (l:List UInt8):Int:=match Lib.atoiAll l with
  | .ok v=>v
  | .range=>Lib.atoiSat l
  | _=>0
def isOk (l:List UInt8):Bool:=match Lib.atoiAll l with
  | .ok _=>true
  | _=>false
def AtoiE (l:List UInt8) (ev:Value):Prop:=if isOk l=true then ev = .nilIface else ∃te pe,ev = .iface te pe
theorem Atoi_ok (ob:Lb) (s:ByteArray) (hl:s.size≤1000000):ACalls Tryd.prog 46 [strA s] [(10900,tabO ob)] (fun r o=>∃ev:Value,r = .tup [I (atoiV s.data.toList),.val ev]∧o=[(10900,tabO ob)]∧AtoiE s.data.toList ev):=by
  refine ⟨⟨_,Tryd.func46,by kernel_rfl,by kernel_rfl⟩,fun w e vals hs hvl hv=>?_⟩
  obtain ⟨p,rfl⟩:=one_val hvl
  have hp:p = .string s:=(hv 0 (strA s) p rfl rfl).val_inv
  subst hp
  have hw:=lib_of hs rfl
  have rd:∀(w' : World) (n:Int) (ev:Value),Rd w' e (.tup [I n,.val ev]) (.tuple #[.int .i64 n,ev]):=fun w' n ev=>by
    refine .tup _ _ rfl fun i x y hx hy=>?_
    match i,hx,hy with
    | 0,hx,hy=>cases hx;cases hy;exact .data (.val _)
    | 1,hx,hy=>cases hx;cases hy;exact .data (.val _)
  rcases h:Lib.atoiAll s.data.toList with v | _ | _
  · refine (Any.strconv_Atoi_ok Tryd.laysC172 s (by omega) v h w).mono ?_
    rintro en w' ⟨rfl,hw'⟩
    have hb:Below w.heap.size w w':=by
      rcases hw' with rfl | ⟨t,rfl⟩
      · exact Below.refl _ _
      · exact Lib.bytesWorld_below _ _ _
    obtain ⟨a1,a2⟩:=hs.grown hb.size (fun k hk=>hb.block k hk) hb.os hb.tape hb.output
    exact ⟨_,.tup [I v,.val .nilIface],_,e,rfl,⟨.nilIface,by simp [atoiV,h],rfl,by simp [AtoiE,isOk,h]⟩,a1,a2,rd _ _ _⟩
  · obtain ⟨ev,g1,g2⟩:=lib_syn hw
    refine (Any.strconv_Atoi_syntax Tryd.laysC172 s (by omega) h ev w g1 g2).mono ?_
    rintro en w' ⟨N,rfl,_,_,hb⟩
    obtain ⟨a1,a2⟩:=hs.grown hb.size (fun k hk=>hb.block k hk) hb.os hb.tape hb.output
    exact ⟨_,.tup [I 0,.val (.iface _ _)],_,e,rfl,⟨_,by simp [atoiV,h];rfl,rfl,by simp [AtoiE,isOk,h]⟩,a1,a2,rd _ _ _⟩
  · obtain ⟨ev,g1,g2⟩:=lib_rng hw
    refine (Any.strconv_Atoi_range Tryd.laysC172 s (by omega) h ev w g1 g2).mono ?_
    rintro en w' ⟨N,rfl,_,_,hb⟩
    obtain ⟨a1,a2⟩:=hs.grown hb.size (fun k hk=>hb.block k hk) hb.os hb.tape hb.output
    exact ⟨_,.tup [I (Lib.atoiSat s.data.toList),.val (.iface _ _)],_,e,rfl,⟨_,by simp [atoiV,h];rfl,rfl,by simp [AtoiE,isOk,h]⟩,a1,a2,rd _ _ _⟩
theorem atoiE_t {l:List UInt8}{ev:Value}(h:AtoiE l ev) (k:isOk l=true):ev = .nilIface:=by unfold AtoiE at h;rwa [if_pos k] at h
theorem atoiE_f {l:List UInt8}{ev:Value}(h:AtoiE l ev) (k:isOk l=false):∃te pe,ev = .iface te pe:=by unfold AtoiE at h;rwa [if_neg (by rw [k];decide)] at h
theorem isOk_ok {l:List UInt8}(h:isOk l=true):Lib.atoiAll l = .ok (atoiV l):=by
  unfold isOk at h
  unfold atoiV
  split at h
  · rename_i v hv;rw [hv]
  · cases h
end Go.Sim
