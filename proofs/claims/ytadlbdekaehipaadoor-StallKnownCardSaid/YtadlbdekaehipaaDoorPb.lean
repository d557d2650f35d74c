/- A letting as applicants and stalls (plain). -/
import Derived.Test.YtadlbdekaehipaaDoorLj
import Derived.Test.YtadlbdekaehipaaDoorPa
set_option linter.all false
set_option linter.unusedVariables false
set_option linter.unusedSimpArgs false
set_option linter.unusedSectionVars false
namespace Go.Sim
open Go.Market
def mktL (l:Lett):Mkt where
  n:=l.apps.length
  m:=l.stalls.length
  can:=fun a s=>canS l.stalls (nth l.apps a) s=true
  rk:=fun a s=>(nth l.apps a).wishes.idxOf (s:Int)
  wl:=fun a=>(nth l.apps a).wishes.length
  ah:=fun s a b=>a≠b∧aheadB l s a b=true
theorem posD_inj {l:Lett}{a b:Nat}(ha:a<l.apps.length) (hb:b<l.apps.length) (h:posD l a=posD l b):a=b:=by
  obtain ⟨h1,h2⟩:=posD_get ha
  obtain ⟨h3,h4⟩:=posD_get hb
  have:((a:Nat):Int)=(b:Nat):=by rw [←h2,←h4];simp only [h]
  omega
theorem aheadB_iff {l:Lett}{s a b:Nat}:aheadB l s a b=true↔(nth l.stalls s).heir=(a:Int)∨((nth l.stalls s).heir≠(a:Int)∧(nth l.stalls s).heir≠(b:Int) ∧
    (((nth l.stalls s).rule=3∧bidA (nth l.apps b) s<bidA (nth l.apps a) s)∨(((nth l.stalls s).rule=3→bidA (nth l.apps b) s=bidA (nth l.apps a) s) ∧
      (((nth l.stalls s).rule≠1∧(nth l.apps b).years<(nth l.apps a).years)∨(((nth l.stalls s).rule≠1→(nth l.apps b).years=(nth l.apps a).years)∧posD l a<posD l b))))):=by
  unfold aheadB
  generalize (nth l.stalls s).heir=h
  generalize (nth l.stalls s).rule=r
  generalize bidA (nth l.apps b) s=vb
  generalize bidA (nth l.apps a) s=va
  generalize (nth l.apps a).years=ya
  generalize (nth l.apps b).years=yb
  generalize posD l a=pa
  generalize posD l b=pb
  by_cases h1:h=a∨h=b
  · rw [if_pos h1,decide_eq_true_eq];omega
  · rw [if_neg h1]
    by_cases h2:r=3∧vb≠va
    · rw [if_pos h2,decide_eq_true_eq];omega
    · rw [if_neg h2]
      by_cases h3:r≠1∧ya≠yb
      · rw [if_pos h3,decide_eq_true_eq];omega
      · rw [if_neg h3,decide_eq_true_eq];omega
theorem ahead_tr {l:Lett}{s a b c:Nat}(hab:a≠b) (hbc:b≠c) (h1:aheadB l s a b=true) (h2:aheadB l s b c=true):a≠c∧aheadB l s a c=true:=by
  rw [aheadB_iff] at h1 h2 ⊢
  refine ⟨fun e=>?_, ?_⟩
  · subst e;omega
  · omega
theorem ahead_tot {l:Lett}{s a b:Nat}(ha:a<l.apps.length) (hb:b<l.apps.length) (hab:a≠b):aheadB l s a b=true∨aheadB l s b a=true:=by
  have hp:posD l a≠posD l b:=fun e=>hab (posD_inj ha hb e)
  rw [aheadB_iff,aheadB_iff]
  omega
theorem ahead_asym {l:Lett}{s a b:Nat}(hab:a≠b) (h1:aheadB l s a b=true):aheadB l s b a=false:=by
  cases h:aheadB l s b a with
  | false=>rfl
  | true=>exact absurd rfl (ahead_tr hab hab.symm h1 h).1
theorem mkt_ok {l:Lett}(hv:ValidL l):(mktL l).Ok:=by
  refine ⟨fun a s ha hs hc=>canS_lt hc,fun a s t ha hs ht hc hc' h=>?_,fun s a ha hs hc h=>h.1 rfl,fun s a b c hs ha hb hc _ _ _ h1 h2=>ahead_tr h1.1 h2.1 h1.2 h2.2,fun s a b hs ha hb _ _ hne=>?_⟩
  · have h1:=List.getElem_idxOf (canS_lt hc)
    have h2:=List.getElem_idxOf (canS_lt hc')
    have h3:(nth l.apps a).wishes.idxOf (s:Int)=(nth l.apps a).wishes.idxOf (t:Int):=h
    have:(s:Int)=t:=by rw [←h1,←h2];simp only [h3]
    omega
  · rcases ahead_tot ha hb hne with h | h
    · exact .inl ⟨hne,h⟩
    · exact .inr ⟨hne.symm,h⟩
#print axioms mkt_ok
end Go.Sim
