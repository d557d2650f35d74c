/-
  No cell of these rows narrows 'for every input' (looked for: loops, veiled, ifaces, maps, wideKeys, modest, calm, conditions, laid).
  DERIVED. THE GIVEN ROWS OF THIS SEAT. 10 by the template 'for every input the law returns true; each argument reads behind the call as it read before'; 0 by the template 'total and deterministic' (their statements: YtmkclhnokelicaaTotals.lean).
  GIVEN WITH THE SEED: the statements are not yours to turn. If you find one false, say at which input.
  Laid BY PROGRAM, IN A SANDBOX (cutbox-rows.mjs): the forced cells as the released guide's own fill.sh prints them over the translation a8d65b5105bf6235… (all of the seat's roots in one cut). By AI agents, Wed Nov 11 2026. No macro, syntax, notation, axiom, sorry.
-/
import Derived.Test.YtmkclhnokelicaaChecked
import GoSem.Claim
import GoSem.ClaimJoined
import GoSem.ClaimMapViews
import Derived.JoinedTies
import Derived.KernelRfl
namespace Go.Proofs.Ytmkclhnokelicaa
/- THE CELL 'sum', in the pinned program and in every row, IS THE sha256 OF THE DUMP (.gsa) THAT YtmkclhnokelicaaProg.lean LOADS. Nothing in Lean hashes anything: it is a label: what it is worth is what the hold of that sum in a sandbox is worth. -/
noncomputable def Try.pinned : Pinned := { name := "ytmkclhnokelicaa", sum := "a8d65b5105bf62358b2a14f8bc54fe0cb30860dc55bfbd58c7b69c48d6abff83", checked := Try.checked }
namespace Rows
def none {H : Type} : Left H := { results := [], args := [] }

/-- 'shambleslaw02.StallDrawn': WHATEVER THE INPUT: true; the input reads as it did. -/
def stallDrawnSpec : ChangeSpec := { name := "stallDrawn", fn := fun _ => fun
  | [d] => { results := [.lit (.bool true)], args := [d] }
  | _ => none }
def stallDrawnRow : OpenClaim := { program := "ytmkclhnokelicaa", sum := "a8d65b5105bf62358b2a14f8bc54fe0cb30860dc55bfbd58c7b69c48d6abff83", func := "shambles/shambleslaw02.StallDrawn", spec := "stallDrawn", unfollowed := true, recurses := true, apart := false }
def StallDrawnSaid : Prop := stallDrawnRow.holds Try.pinned (OpenSpec.ofChange stallDrawnSpec)

/-- ITS FALSE NEIGHBOUR: 'it returns false'. Refute it at one input. -/
def stallDrawnWrong : ChangeSpec := { name := "stallDrawn", fn := fun _ => fun
  | [d] => { results := [.lit (.bool false)], args := [d] }
  | _ => none }
def StallDrawnWrongFalsely : Prop := stallDrawnRow.holds Try.pinned (OpenSpec.ofChange stallDrawnWrong)

/-- 'shambleslaw02.StallOne': WHATEVER THE INPUT: true; the input reads as it did. -/
def stallOneSpec : ChangeSpec := { name := "stallOne", fn := fun _ => fun
  | [d] => { results := [.lit (.bool true)], args := [d] }
  | _ => none }
def stallOneRow : OpenClaim := { program := "ytmkclhnokelicaa", sum := "a8d65b5105bf62358b2a14f8bc54fe0cb30860dc55bfbd58c7b69c48d6abff83", func := "shambles/shambleslaw02.StallOne", spec := "stallOne", unfollowed := true, recurses := true, apart := false }
def StallOneSaid : Prop := stallOneRow.holds Try.pinned (OpenSpec.ofChange stallOneSpec)

/-- ITS FALSE NEIGHBOUR: 'it returns false'. Refute it at one input. -/
def stallOneWrong : ChangeSpec := { name := "stallOne", fn := fun _ => fun
  | [d] => { results := [.lit (.bool false)], args := [d] }
  | _ => none }
def StallOneWrongFalsely : Prop := stallOneRow.holds Try.pinned (OpenSpec.ofChange stallOneWrong)

/-- 'shambleslaw02.StallBest': WHATEVER THE INPUT: true; the input reads as it did. -/
def stallBestSpec : ChangeSpec := { name := "stallBest", fn := fun _ => fun
  | [d] => { results := [.lit (.bool true)], args := [d] }
  | _ => none }
def stallBestRow : OpenClaim := { program := "ytmkclhnokelicaa", sum := "a8d65b5105bf62358b2a14f8bc54fe0cb30860dc55bfbd58c7b69c48d6abff83", func := "shambles/shambleslaw02.StallBest", spec := "stallBest", unfollowed := true, recurses := true, apart := false }
def StallBestSaid : Prop := stallBestRow.holds Try.pinned (OpenSpec.ofChange stallBestSpec)

/-- ITS FALSE NEIGHBOUR: 'it returns false'. Refute it at one input. -/
def stallBestWrong : ChangeSpec := { name := "stallBest", fn := fun _ => fun
  | [d] => { results := [.lit (.bool false)], args := [d] }
  | _ => none }
def StallBestWrongFalsely : Prop := stallBestRow.holds Try.pinned (OpenSpec.ofChange stallBestWrong)

/-- 'shambleslaw02.StallTruth': WHATEVER THE INPUT: true; the input reads as it did. -/
def stallTruthSpec : ChangeSpec := { name := "stallTruth", fn := fun _ => fun
  | [d] => { results := [.lit (.bool true)], args := [d] }
  | _ => none }
def stallTruthRow : OpenClaim := { program := "ytmkclhnokelicaa", sum := "a8d65b5105bf62358b2a14f8bc54fe0cb30860dc55bfbd58c7b69c48d6abff83", func := "shambles/shambleslaw02.StallTruth", spec := "stallTruth", unfollowed := true, recurses := true, apart := false }
def StallTruthSaid : Prop := stallTruthRow.holds Try.pinned (OpenSpec.ofChange stallTruthSpec)

/-- ITS FALSE NEIGHBOUR: 'it returns false'. Refute it at one input. -/
def stallTruthWrong : ChangeSpec := { name := "stallTruth", fn := fun _ => fun
  | [d] => { results := [.lit (.bool false)], args := [d] }
  | _ => none }
def StallTruthWrongFalsely : Prop := stallTruthRow.holds Try.pinned (OpenSpec.ofChange stallTruthWrong)

/-- 'shambleslaw02.StallRoom': WHATEVER THE INPUT: true; the input reads as it did. -/
def stallRoomSpec : ChangeSpec := { name := "stallRoom", fn := fun _ => fun
  | [d] => { results := [.lit (.bool true)], args := [d] }
  | _ => none }
def stallRoomRow : OpenClaim := { program := "ytmkclhnokelicaa", sum := "a8d65b5105bf62358b2a14f8bc54fe0cb30860dc55bfbd58c7b69c48d6abff83", func := "shambles/shambleslaw02.StallRoom", spec := "stallRoom", unfollowed := true, recurses := true, apart := false }
def StallRoomSaid : Prop := stallRoomRow.holds Try.pinned (OpenSpec.ofChange stallRoomSpec)

/-- ITS FALSE NEIGHBOUR: 'it returns false'. Refute it at one input. -/
def stallRoomWrong : ChangeSpec := { name := "stallRoom", fn := fun _ => fun
  | [d] => { results := [.lit (.bool false)], args := [d] }
  | _ => none }
def StallRoomWrongFalsely : Prop := stallRoomRow.holds Try.pinned (OpenSpec.ofChange stallRoomWrong)

/-- 'shambleslaw02.StallLets': WHATEVER THE INPUT: true; the input reads as it did. -/
def stallLetsSpec : ChangeSpec := { name := "stallLets", fn := fun _ => fun
  | [d1, d2, d3, d4, d5] => { results := [.lit (.bool true)], args := [d1, d2, d3, d4, d5] }
  | _ => none }
def stallLetsRow : OpenClaim := { program := "ytmkclhnokelicaa", sum := "a8d65b5105bf62358b2a14f8bc54fe0cb30860dc55bfbd58c7b69c48d6abff83", func := "shambles/shambleslaw02.StallLets", spec := "stallLets", unfollowed := true, recurses := true, apart := false }
def StallLetsSaid : Prop := stallLetsRow.holds Try.pinned (OpenSpec.ofChange stallLetsSpec)

/-- ITS FALSE NEIGHBOUR: 'it returns false'. Refute it at one input. -/
def stallLetsWrong : ChangeSpec := { name := "stallLets", fn := fun _ => fun
  | [d1, d2, d3, d4, d5] => { results := [.lit (.bool false)], args := [d1, d2, d3, d4, d5] }
  | _ => none }
def StallLetsWrongFalsely : Prop := stallLetsRow.holds Try.pinned (OpenSpec.ofChange stallLetsWrong)

/-- 'shambleslaw02.StallRents': WHATEVER THE INPUT: true; the input reads as it did. -/
def stallRentsSpec : ChangeSpec := { name := "stallRents", fn := fun _ => fun
  | [d] => { results := [.lit (.bool true)], args := [d] }
  | _ => none }
def stallRentsRow : OpenClaim := { program := "ytmkclhnokelicaa", sum := "a8d65b5105bf62358b2a14f8bc54fe0cb30860dc55bfbd58c7b69c48d6abff83", func := "shambles/shambleslaw02.StallRents", spec := "stallRents", unfollowed := true, recurses := true, apart := false }
def StallRentsSaid : Prop := stallRentsRow.holds Try.pinned (OpenSpec.ofChange stallRentsSpec)

/-- ITS FALSE NEIGHBOUR: 'it returns false'. Refute it at one input. -/
def stallRentsWrong : ChangeSpec := { name := "stallRents", fn := fun _ => fun
  | [d] => { results := [.lit (.bool false)], args := [d] }
  | _ => none }
def StallRentsWrongFalsely : Prop := stallRentsRow.holds Try.pinned (OpenSpec.ofChange stallRentsWrong)

/-- 'shambleslaw02.StallChecks': WHATEVER THE INPUT: true; the input reads as it did. -/
def stallChecksSpec : ChangeSpec := { name := "stallChecks", fn := fun _ => fun
  | [d1, d2, d3, d4, d5] => { results := [.lit (.bool true)], args := [d1, d2, d3, d4, d5] }
  | _ => none }
def stallChecksRow : OpenClaim := { program := "ytmkclhnokelicaa", sum := "a8d65b5105bf62358b2a14f8bc54fe0cb30860dc55bfbd58c7b69c48d6abff83", func := "shambles/shambleslaw02.StallChecks", spec := "stallChecks", unfollowed := true, recurses := true, apart := false }
def StallChecksSaid : Prop := stallChecksRow.holds Try.pinned (OpenSpec.ofChange stallChecksSpec)

/-- ITS FALSE NEIGHBOUR: 'it returns false'. Refute it at one input. -/
def stallChecksWrong : ChangeSpec := { name := "stallChecks", fn := fun _ => fun
  | [d1, d2, d3, d4, d5] => { results := [.lit (.bool false)], args := [d1, d2, d3, d4, d5] }
  | _ => none }
def StallChecksWrongFalsely : Prop := stallChecksRow.holds Try.pinned (OpenSpec.ofChange stallChecksWrong)

/-- 'shambleslaw02.StallAhead': WHATEVER THE INPUT: true; the input reads as it did. -/
def stallAheadSpec : ChangeSpec := { name := "stallAhead", fn := fun _ => fun
  | [d] => { results := [.lit (.bool true)], args := [d] }
  | _ => none }
def stallAheadRow : OpenClaim := { program := "ytmkclhnokelicaa", sum := "a8d65b5105bf62358b2a14f8bc54fe0cb30860dc55bfbd58c7b69c48d6abff83", func := "shambles/shambleslaw02.StallAhead", spec := "stallAhead", unfollowed := true, recurses := true, apart := false }
def StallAheadSaid : Prop := stallAheadRow.holds Try.pinned (OpenSpec.ofChange stallAheadSpec)

/-- ITS FALSE NEIGHBOUR: 'it returns false'. Refute it at one input. -/
def stallAheadWrong : ChangeSpec := { name := "stallAhead", fn := fun _ => fun
  | [d] => { results := [.lit (.bool false)], args := [d] }
  | _ => none }
def StallAheadWrongFalsely : Prop := stallAheadRow.holds Try.pinned (OpenSpec.ofChange stallAheadWrong)

/-- 'shambleslaw02.StallEnvy': WHATEVER THE INPUT: true; the input reads as it did. -/
def stallEnvySpec : ChangeSpec := { name := "stallEnvy", fn := fun _ => fun
  | [d] => { results := [.lit (.bool true)], args := [d] }
  | _ => none }
def stallEnvyRow : OpenClaim := { program := "ytmkclhnokelicaa", sum := "a8d65b5105bf62358b2a14f8bc54fe0cb30860dc55bfbd58c7b69c48d6abff83", func := "shambles/shambleslaw02.StallEnvy", spec := "stallEnvy", unfollowed := true, recurses := true, apart := false }
def StallEnvySaid : Prop := stallEnvyRow.holds Try.pinned (OpenSpec.ofChange stallEnvySpec)

/-- ITS FALSE NEIGHBOUR: 'it returns false'. Refute it at one input. -/
def stallEnvyWrong : ChangeSpec := { name := "stallEnvy", fn := fun _ => fun
  | [d] => { results := [.lit (.bool false)], args := [d] }
  | _ => none }
def StallEnvyWrongFalsely : Prop := stallEnvyRow.holds Try.pinned (OpenSpec.ofChange stallEnvyWrong)

/- THE SECOND FORM. 'bulk': how many values and letters a reading holds, each counted each time it is reached (what is shared counts as often as it is met; a slice's spare places count too). A statement '..UptoSaid' is the law's where the arguments, and the package variables that the reading takes, are together of bulk at most 1048576: NARROWER than '..Said'. Prove '..Said' where nothing that the law and all that it calls make is longer than what came in: it says more and counts as full. Else prove '..UptoSaid'. A law counts once. -/
mutual
def uptoBulk {H : Type} : DataW H → Nat
  | .lit (.string bytes) => bytes.length + 1
  | .lit _ => 1
  | .nil => 1
  | .ptr d => uptoBulk d + 1
  | .slice elems spare => uptoBulkAll elems + uptoBulkAll spare + 1
  | .agg parts => uptoBulkAll parts + 1
  | .iface _ d => uptoBulk d + 1
  | .map entries => uptoBulkEntries entries + 1
  | .held _ => 1
def uptoBulkAll {H : Type} : List (DataW H) → Nat
  | [] => 0
  | d :: r => uptoBulk d + uptoBulkAll r
def uptoBulkEntries {H : Type} : List (Lit × DataW H) → Nat
  | [] => 0
  | x :: r => uptoBulkEntry x + uptoBulkEntries r
def uptoBulkEntry {H : Type} : Lit × DataW H → Nat
  | (.string bytes, d) => bytes.length + uptoBulk d + 1
  | (_, d) => uptoBulk d + 1
 end
def uptoSmall : (H : Type) → List (DataW H) → Bool := fun _ ds => decide (uptoBulkAll ds ≤ 1048576)
def OpenSpec.upto (s : _root_.Go.ChangeSpec) : _root_.Go.OpenSpec := { _root_.Go.OpenSpec.ofChange s with cond := some uptoSmall }

/-- 'shambleslaw02.StallDrawn', WHERE WHAT IT READS IS OF BULK AT MOST 1048576: true; the input reads as it did. -/
def stallDrawnUptoRow : OpenClaim := { program := "ytmkclhnokelicaa", sum := "a8d65b5105bf62358b2a14f8bc54fe0cb30860dc55bfbd58c7b69c48d6abff83", func := "shambles/shambleslaw02.StallDrawn", spec := "stallDrawn", unfollowed := true, recurses := true, apart := false, narrowed := true }
def StallDrawnUptoSaid : Prop := stallDrawnUptoRow.holds Try.pinned (OpenSpec.upto stallDrawnSpec)

/-- 'shambleslaw02.StallOne', WHERE WHAT IT READS IS OF BULK AT MOST 1048576: true; the input reads as it did. -/
def stallOneUptoRow : OpenClaim := { program := "ytmkclhnokelicaa", sum := "a8d65b5105bf62358b2a14f8bc54fe0cb30860dc55bfbd58c7b69c48d6abff83", func := "shambles/shambleslaw02.StallOne", spec := "stallOne", unfollowed := true, recurses := true, apart := false, narrowed := true }
def StallOneUptoSaid : Prop := stallOneUptoRow.holds Try.pinned (OpenSpec.upto stallOneSpec)

/-- 'shambleslaw02.StallBest', WHERE WHAT IT READS IS OF BULK AT MOST 1048576: true; the input reads as it did. -/
def stallBestUptoRow : OpenClaim := { program := "ytmkclhnokelicaa", sum := "a8d65b5105bf62358b2a14f8bc54fe0cb30860dc55bfbd58c7b69c48d6abff83", func := "shambles/shambleslaw02.StallBest", spec := "stallBest", unfollowed := true, recurses := true, apart := false, narrowed := true }
def StallBestUptoSaid : Prop := stallBestUptoRow.holds Try.pinned (OpenSpec.upto stallBestSpec)

/-- 'shambleslaw02.StallTruth', WHERE WHAT IT READS IS OF BULK AT MOST 1048576: true; the input reads as it did. -/
def stallTruthUptoRow : OpenClaim := { program := "ytmkclhnokelicaa", sum := "a8d65b5105bf62358b2a14f8bc54fe0cb30860dc55bfbd58c7b69c48d6abff83", func := "shambles/shambleslaw02.StallTruth", spec := "stallTruth", unfollowed := true, recurses := true, apart := false, narrowed := true }
def StallTruthUptoSaid : Prop := stallTruthUptoRow.holds Try.pinned (OpenSpec.upto stallTruthSpec)

/-- 'shambleslaw02.StallRoom', WHERE WHAT IT READS IS OF BULK AT MOST 1048576: true; the input reads as it did. -/
def stallRoomUptoRow : OpenClaim := { program := "ytmkclhnokelicaa", sum := "a8d65b5105bf62358b2a14f8bc54fe0cb30860dc55bfbd58c7b69c48d6abff83", func := "shambles/shambleslaw02.StallRoom", spec := "stallRoom", unfollowed := true, recurses := true, apart := false, narrowed := true }
def StallRoomUptoSaid : Prop := stallRoomUptoRow.holds Try.pinned (OpenSpec.upto stallRoomSpec)

/-- 'shambleslaw02.StallLets', WHERE WHAT IT READS IS OF BULK AT MOST 1048576: true; the input reads as it did. -/
def stallLetsUptoRow : OpenClaim := { program := "ytmkclhnokelicaa", sum := "a8d65b5105bf62358b2a14f8bc54fe0cb30860dc55bfbd58c7b69c48d6abff83", func := "shambles/shambleslaw02.StallLets", spec := "stallLets", unfollowed := true, recurses := true, apart := false, narrowed := true }
def StallLetsUptoSaid : Prop := stallLetsUptoRow.holds Try.pinned (OpenSpec.upto stallLetsSpec)

/-- 'shambleslaw02.StallRents', WHERE WHAT IT READS IS OF BULK AT MOST 1048576: true; the input reads as it did. -/
def stallRentsUptoRow : OpenClaim := { program := "ytmkclhnokelicaa", sum := "a8d65b5105bf62358b2a14f8bc54fe0cb30860dc55bfbd58c7b69c48d6abff83", func := "shambles/shambleslaw02.StallRents", spec := "stallRents", unfollowed := true, recurses := true, apart := false, narrowed := true }
def StallRentsUptoSaid : Prop := stallRentsUptoRow.holds Try.pinned (OpenSpec.upto stallRentsSpec)

/-- 'shambleslaw02.StallChecks', WHERE WHAT IT READS IS OF BULK AT MOST 1048576: true; the input reads as it did. -/
def stallChecksUptoRow : OpenClaim := { program := "ytmkclhnokelicaa", sum := "a8d65b5105bf62358b2a14f8bc54fe0cb30860dc55bfbd58c7b69c48d6abff83", func := "shambles/shambleslaw02.StallChecks", spec := "stallChecks", unfollowed := true, recurses := true, apart := false, narrowed := true }
def StallChecksUptoSaid : Prop := stallChecksUptoRow.holds Try.pinned (OpenSpec.upto stallChecksSpec)

/-- 'shambleslaw02.StallAhead', WHERE WHAT IT READS IS OF BULK AT MOST 1048576: true; the input reads as it did. -/
def stallAheadUptoRow : OpenClaim := { program := "ytmkclhnokelicaa", sum := "a8d65b5105bf62358b2a14f8bc54fe0cb30860dc55bfbd58c7b69c48d6abff83", func := "shambles/shambleslaw02.StallAhead", spec := "stallAhead", unfollowed := true, recurses := true, apart := false, narrowed := true }
def StallAheadUptoSaid : Prop := stallAheadUptoRow.holds Try.pinned (OpenSpec.upto stallAheadSpec)

/-- 'shambleslaw02.StallEnvy', WHERE WHAT IT READS IS OF BULK AT MOST 1048576: true; the input reads as it did. -/
def stallEnvyUptoRow : OpenClaim := { program := "ytmkclhnokelicaa", sum := "a8d65b5105bf62358b2a14f8bc54fe0cb30860dc55bfbd58c7b69c48d6abff83", func := "shambles/shambleslaw02.StallEnvy", spec := "stallEnvy", unfollowed := true, recurses := true, apart := false, narrowed := true }
def StallEnvyUptoSaid : Prop := stallEnvyUptoRow.holds Try.pinned (OpenSpec.upto stallEnvySpec)

end Rows
end Go.Proofs.Ytmkclhnokelicaa
