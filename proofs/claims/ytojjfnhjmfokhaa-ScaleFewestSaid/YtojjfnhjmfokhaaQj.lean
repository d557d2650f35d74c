/- Seals: the reference's search finds the program's plan. -/
import Derived.Test.YtojjfnhjmfokhaaQg
set_option linter.all false
set_option linter.unusedVariables false
set_option linter.unusedSimpArgs false
set_option linter.unusedSectionVars false
namespace Go.Sim
open Go.Proofs
def laterB:List Tst→List Tst→Bool
  | x :: xs,y :: ys=>if x=y then laterB xs ys else (decide (y.day<x.day)||(decide (x.day=y.day)&&decide (y.sc<x.sc)))
  | _,_=>false
theorem bestF_snoc (p:Pln):∀(l:List Pln) (o:Pln),bestF o (l++[p])=if betterP p (bestF o l)=true then p else bestF o l
  | [],o=>rfl
  | x :: xs,o=>bestF_snoc p xs _
theorem bestP_snoc (l:List Pln) (p:Pln):bestP (l++[p])=if l=[] then p else if betterP p (bestP l)=true then p else bestP l:=by
  cases l with
  | nil=>rfl
  | cons x xs =>
    show bestF x (xs++[p])=_
    rw [bestF_snoc,if_neg (show ¬(x :: xs)=[] by simp)];rfl
theorem laterB_pre (a b:List Tst):∀d:List Tst,laterB (d++a) (d++b)=laterB a b
  | []=>rfl
  | x :: d=>by rw [List.cons_append,List.cons_append,laterB,if_pos rfl,laterB_pre a b d]
theorem cmpI_zero {a b:Int}:cmpI a b=0↔a=b:=by unfold cmpI;(repeat' split)<;>omega
theorem cmp1_zero {x y:Tst}:cmp1 x y=0↔x=y:=by
  unfold cmp1
  have h1:=@cmpI_zero x.day y.day
  have h2:=@cmpI_zero x.sc y.sc
  constructor
  · intro h
    split at h
    · contradiction
    · rename_i g
      have e1:=h1.1 (by omega)
      have e2:=h2.1 h
      cases x;cases y;simp_all
  · rintro rfl
    rw [if_neg (by simp [h1.2]),h2.2 rfl]
theorem cmp1_pos {x y:Tst}(h:x≠y):decide (0<cmp1 x y)=(decide (y.day<x.day)||(decide (x.day=y.day)&&decide (y.sc<x.sc))):=by
  rw [Bool.eq_iff_iff]
  simp only [decide_eq_true_eq,Bool.or_eq_true,Bool.and_eq_true]
  unfold cmp1 cmpI
  (repeat' split)<;>omega
theorem cmpT_later:∀ {a b:List Tst},a.length=b.length→decide (0<cmpT a b)=laterB a b
  | [],[],_=>rfl
  | x :: xs, y :: ys, h => by
    rw [cmpT,laterB]
    by_cases e:x=y
    · rw [if_pos e,if_neg (by rw [Classical.not_not];exact cmp1_zero.2 e)]
      exact cmpT_later (by simpa using h)
    · rw [if_neg e,if_pos (fun n=>e (cmp1_zero.1 n))]
      exact cmp1_pos e
  | [],_ :: _,h=>by simp at h
  | _ :: _,[],h=>by simp at h
structure Clip (s:Sls) (u left:List Int):Prop where
  l:left.length=s.lef.length
  ul:s.lef.length≤u.length
  at_:∀i,i<s.lef.length→nth u i=min (nth left i) s.days
theorem nth_set' {l:List Int}{i k:Nat}{x:Int}(hi:i<l.length):nth (l.set i x) k=if k=i then x else nth l k:=by
  unfold nth
  rw [List.getD_eq_getElem?_getD,List.getD_eq_getElem?_getD,List.getElem?_set]
  by_cases h:i=k
  · subst h;rw [if_pos rfl,if_pos hi,if_pos rfl];rfl
  · rw [if_neg h,if_neg (fun n=>h n.symm)]
end Go.Sim
