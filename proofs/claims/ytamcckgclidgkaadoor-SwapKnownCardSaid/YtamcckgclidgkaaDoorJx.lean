/- Laws that read a listed table: the world in which such a law begins, and a world that meets the list. -/
import Derived.Test.YtamcckgclidgkaaDoorJa
import Derived.Test.YtamcckgclidgkaaDoorIa
set_option linter.all false
set_option linter.unusedVariables false
namespace Go.Sim
open Go.RowKit Go.ChangeShapes Go.WideShapes Go.ChangeAt
section
variable {H : Type} {enc : TypeId × Value → H} {P : Program} {W : World}
/-- all memory but the table's block may hold data -/
def env1 (g : Nat) : Env := { get := fun id => if id = 10900 then some (mt (some g) 20 1) else none, pr := fun _ => True, bs := 0 }
theorem env1_owned {g b : Nat} : (env1 g).owned b ↔ b = g := by
  constructor
  · rintro ⟨id, m, h1, h2⟩
    simp only [env1] at h1
    split at h1
    · cases h1; rcases h2 with h2 | h2
      · cases h2; rfl
      · exact h2.elim
    · cases h1
  · rintro rfl; exact ⟨10900, _, rfl, .inl rfl⟩
theorem env1_sim {g : Nat} {name : String} {ob : Go.Obj} (hg : P.globalNamed name = some g) (hob : W.heap[g]? = some ob) (ht : Lib.TabIs P W name .u64 Lib.pow10Tab) : Sim W (env1 g) [(10900, .cus (tabC P name ob))] := by
  refine ⟨fun id => ?_, ?_, ?_, fun _ _ => trivial, fun _ _ => trivial⟩
  · by_cases h : id = 10900
    · subst h; rfl
    · simp [env1, look, h, Ne.symm h]
  · intro i j m m' b h1 h2 _ _
    simp only [env1] at h1 h2
    split at h1 <;> split at h2 <;> simp_all
  · intro id o m h1 h2
    simp only [look] at h1
    split at h1
    · rename_i h
      subst h; cases h1
      have : m = mt (some g) 20 1 := by simpa [env1] using h2.symm
      subst this
      refine ⟨⟨g, hg, rfl, hob, ht⟩, fun h => ?_, fun b hb => ?_, tabC_stab _ _ _⟩
      · simp [Mta.gone] at h
      · rcases hb with hb | hb
        · cases hb; exact (Array.getElem?_eq_some_iff.1 hob).1
        · exact hb.elim
    · cases h1
/-- From a contract on data and the table to what the row asks for. -/
theorem calls_of1 {fn : FuncId} {xs : List AV} {g : Nat} {name : String} {ob : Go.Obj} (h : ACalls P fn xs [(10900, .cus (tabC P name ob))] (fun r objs => r = B true ∧ objs = [(10900, .cus (tabC P name ob))]))
    (hg : P.globalNamed name = some g) (hob : W.heap[g]? = some ob) (ht : Lib.TabIs P W name .u64 Lib.pow10Tab) {args : Array Value} (hs : args.size = xs.length) (hr : ∀ (i : Nat) (x : AV) (v : Value), xs[i]? = some x → args[i]? = some v → RdD W (env1 g).q x v) :
    Calls P fn args W fun en W' => en = .returned (.bool true) ∧ Below W.heap.size W W' := by
  refine (h.run W (env1 g) args (env1_sim hg hob ht) hs fun i x v hx hv => .data (hr i x v hx hv)).mono ?_
  rintro en W' ⟨v, res, objs, e', rfl, ⟨rfl, rfl⟩, hsim, hf, hrd⟩
  obtain rfl := hrd.val_inv
  refine ⟨rfl, hf.os, hf.tape, hf.output, hf.size, fun k hk => ?_⟩
  by_cases hkg : k = g
  · subst hkg
    obtain ⟨m, hm⟩ := Option.isSome_iff_exists.1 (show (e'.get 10900).isSome = true by rw [hsim.dom]; rfl)
    have ho : CusOk W' e' m (tabC P name ob) := hsim.obj 10900 _ m rfl hm
    obtain ⟨g', g1, _, g3, _⟩ := ho.holds
    rw [hg] at g1; cases g1
    rw [g3, hob]
  · exact hf.blk k hk fun ho => hkg (env1_owned.1 ho)
/-- the cells of a listed array of integers -/
def tabCells : DataW Unit → Array Value
  | .agg ds => (ds.map fun d => match d with | .lit (.int k z) => Value.int k z | _ => .int .i64 0).toArray
  | _ => #[]
/-- a world in which the listed arrays of integers are laid -/
def laidW (P : Program) : World → List (String × DataW Unit) → World
  | w, [] => w
  | w, (n, d) :: r => laidW P { w with heap := w.heap.modify ((P.globalNamed n).getD 0) fun
      | .cells _ t frozen => .cells (tabCells d) t frozen
      | o => o } r
theorem laidW_os : ∀ {l : List (String × DataW Unit)} {w : World}, (laidW P w l).os = w.os
  | [], _ => rfl
  | _ :: r, w => laidW_os (l := r)
theorem LaidVars_at : ∀ {l : List (String × DataW Unit)} {ps : List MemPlace}, DataW.LaidVars P W l ps → ∀ n d, (n, d) ∈ l →
    ∃ g t cs fuel p, P.globalNamed n = some g ∧ (P.globals[g]?).map (·.type) = some t ∧ W.var? P n = some cs ∧ DataW.trod (fun _ => ()) P W 0 (fun _ => true) false fuel t cs.toList = some (d, p)
  | [], _, _, _, _, hm => by cases hm
  | (n', d') :: r, ps, h, n, d, hm => by
    obtain ⟨g, t, cs, fuel, p, q, h1, h2, h3, h4, h5, _⟩ := h
    rcases List.mem_cons.1 hm with e | e
    · cases e
      exact ⟨g, t, cs, fuel, p, h1, h2, h3, h4⟩
    · exact LaidVars_at h5 n d e
end
end Go.Sim
