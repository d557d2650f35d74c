/- Holders as in a market (plain). -/
import Derived.Test.YtadlbdekaehipaaDoorPd
import Derived.Test.YtadlbdekaehipaaDoorLo
set_option linter.all false
set_option linter.unusedVariables false
set_option linter.unusedSimpArgs false
set_option linter.unusedSectionVars false
namespace Go.Sim
open Go.Market
structure HoldOk (l:Lett) (h:List Int):Prop where
  len:h.length=l.stalls.length
  ok:∀s,∀hs:s<h.length,h[s] = -1∨∃a:Nat,h[s]=(a:Int)∧a<l.apps.length∧canS l.stalls (nth l.apps a) s=true
  one:∀s t (a:Nat),∀hs:s<h.length,∀ht:t<h.length,h[s]=(a:Int)→h[t]=(a:Int)→s=t
theorem holdE_zero {l : Lett} {h : List Int} {s : Nat} (hs : s < h.length) : holdE l h s = 0 ↔ h[s] = -1 ∨ ((∃ a : Nat, h[s] = (a : Int) ∧ a < l.apps.length ∧ canS l.stalls (nth l.apps a) s = true) ∧ h[s] ∉ h.take s) := by
  by_cases h0:h[s] = -1
  · simp [holdE_no hs h0,h0]
  · by_cases h1:0≤h[s]∧h[s]≤(l.apps.length:Int)-1
    · by_cases h2:h[s]∈h.take s
      · simp [holdE_two hs h1 h2,h0,h2]
      · obtain ⟨a,ha⟩:∃a:Nat,h[s]=(a:Int):=⟨h[s].toNat,by omega⟩
        have hal:a<l.apps.length:=by omega
        rw [holdE_can hs ha hal h2]
        constructor
        · intro e
          right
          refine ⟨⟨a,ha,hal, ?_⟩,h2⟩
          rw [nth_get hal]
          apply Classical.byContradiction
          intro hn
          rw [if_neg hn] at e
          exact absurd e (by decide)
        · rintro (e | ⟨⟨b,hb,hbl,hc⟩,_⟩)
          · exact absurd e h0
          · have:b=a:=by omega
            subst this
            rw [nth_get hbl] at hc
            rw [if_pos hc]
    · rw [holdE_out hs h0 h1]
      constructor
      · intro e;exact absurd e (by decide)
      · rintro (e | ⟨⟨b,hb,hbl,hc⟩,_⟩)
        · exact absurd e h0
        · exact absurd ⟨by omega,by omega⟩ h1
theorem checkH_zero {l : Lett} {h : List Int} : checkH l h = 0 ↔ ValidL l ∧ HoldOk l h := by
  unfold checkH
  by_cases h1:checkL l=0
  · have hv:=checkL_zero.1 h1
    rw [if_neg (by simp [h1])]
    by_cases h2:h.length=l.stalls.length
    · rw [if_neg (by simp [h2]),holdErr,firstNZ_zero]
      constructor
      · intro e
        have e' : ∀s,∀hs:s<h.length,h[s] = -1∨((∃a:Nat,h[s]=(a:Int)∧a<l.apps.length∧canS l.stalls (nth l.apps a) s=true)∧h[s] ∉ h.take s):=fun s hs=>(holdE_zero hs).1 (e s (List.mem_range.2 hs))
        have aux:∀s t (a:Nat),∀hs:s<h.length,∀ht:t<h.length,h[s]=(a:Int)→h[t]=(a:Int)→¬s<t:=fun s t a hs ht h3 h4 h5=>by
          rcases e' t ht with q | ⟨_,q⟩
          · omega
          · exact q (by rw [h4,←h3];exact List.mem_take_iff_getElem.2 ⟨s,by omega,rfl⟩)
        exact ⟨hv,h2,fun s hs=>(e' s hs).imp id (fun q=>q.1),fun s t a hs ht h3 h4=>by
          have:=aux s t a hs ht h3 h4
          have:=aux t s a ht hs h4 h3
          omega⟩
      · rintro ⟨_,k⟩ s hs
        have hs:=List.mem_range.1 hs
        refine (holdE_zero hs).2 ?_
        rcases k.ok s hs with q | ⟨a,h3,h4,h5⟩
        · exact .inl q
        · refine .inr ⟨⟨a,h3,h4,h5⟩,fun hm=>?_⟩
          obtain ⟨t,ht,h6⟩:=List.mem_take_iff_getElem.1 hm
          have:=k.one t s a (by omega) hs (by rw [h6,h3]) h3
          omega
    · rw [if_pos h2]
      constructor
      · intro e;exact absurd e (by decide)
      · rintro ⟨_,k⟩;exact absurd k.len h2
  · rw [if_pos h1]
    constructor
    · intro e;exact absurd e h1
    · rintro ⟨hv,_⟩;exact absurd (checkL_zero.2 hv) h1
theorem HoldOk.valid {l:Lett}{h:List Int}(k:HoldOk l h):Valid (mktL l) (holdL h):=by
  refine ⟨fun s a hs=>?_,fun s t a hs ht=>?_⟩
  · obtain ⟨h1,h2⟩:=holdL_some.1 hs
    rcases k.ok s h1 with q | ⟨b,h3,h4,h5⟩
    · omega
    · have:b=a:=by omega
      subst this
      exact ⟨by have:=k.len;show s<l.stalls.length;omega,h4,h5⟩
  · obtain ⟨h1,h2⟩:=holdL_some.1 hs
    obtain ⟨h3,h4⟩:=holdL_some.1 ht
    exact k.one s t a h1 h3 h2 h4
theorem BestL.hold {l:Lett}{h:List Int}(k:BestL l h):HoldOk l h:=by
  refine ⟨k.len,fun s hs=>?_,fun s t a hs ht h1 h2=>k.best.st.valid.one s t a (holdL_some.2 ⟨hs,h1⟩) (holdL_some.2 ⟨ht,h2⟩)⟩
  rcases k.rng _ (List.getElem_mem hs) with q | q
  · exact .inl q
  · refine .inr ⟨h[s].toNat,by omega,by omega, ?_⟩
    exact (k.best.st.valid.ok s h[s].toNat (holdL_some.2 ⟨hs,by omega⟩)).2.2
def placeL (l:Lett) (h:List Int) (a:Nat):Nat:=if (a:Int)∈h then (nth l.apps a).wishes.idxOf ((h.idxOf (a:Int):Nat):Int) else (nth l.apps a).wishes.length
def envB (l:Lett) (h:List Int) (a s:Nat):Bool:=canS l.stalls (nth l.apps a) s&&(decide ((nth l.apps a).wishes.idxOf (s:Int)<placeL l h a)&&(decide (nth h s<0)||!aheadB l s (nth h s).toNat a))
def envL (l:Lett) (h:List Int):List (Int×Int):=(List.range l.apps.length).flatMap fun a=>((List.range l.stalls.length).filter (envB l h a)).map fun s:Nat=>((a:Int),(s:Int))
end Go.Sim
