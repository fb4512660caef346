/-
  NARROWER THAN 'FOR EVERY INPUT', by the rows' own cells (each row's printed sentence says how): PlantCools: laid · PlantCheapest: laid · PlantMatches: laid · PlantPairs: laid · PlantRotations: laid · PlantTurns: laid · PlantHeats: laid.
  DERIVED. THE GIVEN ROWS OF THIS SEAT. 7 by the template 'for every input the law returns true; each argument reads behind the call as it read before'; 0 by the template 'total and deterministic' (their statements: YtcebebhaahpoiaaDoorTotals.lean).
  GIVEN WITH THE SEED: the statements are not yours to turn. If you find one false, say at which input.
  Laid BY PROGRAM, IN A SANDBOX (cutbox-rows.mjs): the forced cells as the released guide's own fill.sh prints them over the translation b1ff46bd7f41d711… (all of the seat's roots in one cut). By AI agents, Wed Nov 11 2026. No macro, syntax, notation, axiom, sorry.
-/
import Derived.Test.YtcebebhaahpoiaaDoorChecked
import GoSem.Claim
import GoSem.ClaimJoined
import GoSem.ClaimMapViews
import Derived.JoinedTies
import Derived.KernelRfl
namespace Go.Proofs.YtcebebhaahpoiaaDoor
/- THE CELL 'sum', in the pinned program and in every row, IS THE sha256 OF THE DUMP (.gsa) THAT YtcebebhaahpoiaaDoorProg.lean LOADS. Nothing in Lean hashes anything: it is a label: what it is worth is what the hold of that sum in a sandbox is worth. -/
noncomputable def Tryd.pinned : Pinned := { name := "ytcebebhaahpoiaadoor", sum := "b1ff46bd7f41d711ca2653cc089ec5fe7af2813bc3a3d4cf5f4f8b9065c0f451", checked := Tryd.checked }
namespace Rows
def none {H : Type} : Left H := { results := [], args := [] }

/- WHAT THE LISTED PACKAGE-LEVEL VARIABLES READ AS WHEN THE CALL BEGINS. Each datum BY PROGRAM (the guide's laid-datum.mjs) off the statement by which the dump's own 'gosem.cut.vars' lays the variable. In a bare row this is a premise. The card (YtcebebhaahpoiaaDoorCards.lean) ties it to the program's text. -/
def laid_math_bits_deBruijn32tab {H : Type} : DataW H := .agg [.lit (.int .u8 0), .lit (.int .u8 1), .lit (.int .u8 28), .lit (.int .u8 2), .lit (.int .u8 29), .lit (.int .u8 14), .lit (.int .u8 24), .lit (.int .u8 3), .lit (.int .u8 30), .lit (.int .u8 22), .lit (.int .u8 20), .lit (.int .u8 15), .lit (.int .u8 25), .lit (.int .u8 17), .lit (.int .u8 4), .lit (.int .u8 8), .lit (.int .u8 31), .lit (.int .u8 27), .lit (.int .u8 13), .lit (.int .u8 23), .lit (.int .u8 21), .lit (.int .u8 19), .lit (.int .u8 16), .lit (.int .u8 7), .lit (.int .u8 26), .lit (.int .u8 12), .lit (.int .u8 18), .lit (.int .u8 6), .lit (.int .u8 11), .lit (.int .u8 5), .lit (.int .u8 10), .lit (.int .u8 9)]
def laid_math_bits_deBruijn64tab {H : Type} : DataW H := .agg [.lit (.int .u8 0), .lit (.int .u8 1), .lit (.int .u8 56), .lit (.int .u8 2), .lit (.int .u8 57), .lit (.int .u8 49), .lit (.int .u8 28), .lit (.int .u8 3), .lit (.int .u8 61), .lit (.int .u8 58), .lit (.int .u8 42), .lit (.int .u8 50), .lit (.int .u8 38), .lit (.int .u8 29), .lit (.int .u8 17), .lit (.int .u8 4), .lit (.int .u8 62), .lit (.int .u8 47), .lit (.int .u8 59), .lit (.int .u8 36), .lit (.int .u8 45), .lit (.int .u8 43), .lit (.int .u8 51), .lit (.int .u8 22), .lit (.int .u8 53), .lit (.int .u8 39), .lit (.int .u8 33), .lit (.int .u8 30), .lit (.int .u8 24), .lit (.int .u8 18), .lit (.int .u8 12), .lit (.int .u8 5), .lit (.int .u8 63), .lit (.int .u8 55), .lit (.int .u8 48), .lit (.int .u8 27), .lit (.int .u8 60), .lit (.int .u8 41), .lit (.int .u8 37), .lit (.int .u8 16), .lit (.int .u8 46), .lit (.int .u8 35), .lit (.int .u8 44), .lit (.int .u8 21), .lit (.int .u8 52), .lit (.int .u8 32), .lit (.int .u8 23), .lit (.int .u8 11), .lit (.int .u8 54), .lit (.int .u8 26), .lit (.int .u8 40), .lit (.int .u8 15), .lit (.int .u8 34), .lit (.int .u8 20), .lit (.int .u8 31), .lit (.int .u8 10), .lit (.int .u8 25), .lit (.int .u8 14), .lit (.int .u8 19), .lit (.int .u8 9), .lit (.int .u8 13), .lit (.int .u8 8), .lit (.int .u8 7), .lit (.int .u8 6)]

/-- 'besomlaw12.PlantCools': WHATEVER THE INPUT: true; the input reads as it did. -/
def plantCoolsSpec : ChangeSpec := { name := "plantCools", fn := fun _ => fun
  | [d] => { results := [.lit (.bool true)], args := [d] }
  | _ => none }
def plantCoolsRow : OpenClaim := { program := "ytcebebhaahpoiaadoor", sum := "b1ff46bd7f41d711ca2653cc089ec5fe7af2813bc3a3d4cf5f4f8b9065c0f451", func := "besom/besomlaw12.PlantCools", spec := "plantCools", unfollowed := true, recurses := true, named := ["math/bits.deBruijn32tab", "math/bits.deBruijn64tab"], plainKeys := false, apart := false, laid := [("math/bits.deBruijn32tab", laid_math_bits_deBruijn32tab), ("math/bits.deBruijn64tab", laid_math_bits_deBruijn64tab)] }
def PlantCoolsSaid : Prop := plantCoolsRow.holds Tryd.pinned (OpenSpec.ofChange plantCoolsSpec)

/-- ITS FALSE NEIGHBOUR: 'it returns false'. Refute it at one input. -/
def plantCoolsWrong : ChangeSpec := { name := "plantCools", fn := fun _ => fun
  | [d] => { results := [.lit (.bool false)], args := [d] }
  | _ => none }
def PlantCoolsWrongFalsely : Prop := plantCoolsRow.holds Tryd.pinned (OpenSpec.ofChange plantCoolsWrong)

/-- 'besomlaw12.PlantCheapest': WHATEVER THE INPUT: true; the input reads as it did. -/
def plantCheapestSpec : ChangeSpec := { name := "plantCheapest", fn := fun _ => fun
  | [d1, d2, d3, d4, d5] => { results := [.lit (.bool true)], args := [d1, d2, d3, d4, d5] }
  | _ => none }
def plantCheapestRow : OpenClaim := { program := "ytcebebhaahpoiaadoor", sum := "b1ff46bd7f41d711ca2653cc089ec5fe7af2813bc3a3d4cf5f4f8b9065c0f451", func := "besom/besomlaw12.PlantCheapest", spec := "plantCheapest", unfollowed := true, recurses := true, named := ["math/bits.deBruijn32tab", "math/bits.deBruijn64tab"], plainKeys := false, apart := false, laid := [("math/bits.deBruijn32tab", laid_math_bits_deBruijn32tab), ("math/bits.deBruijn64tab", laid_math_bits_deBruijn64tab)] }
def PlantCheapestSaid : Prop := plantCheapestRow.holds Tryd.pinned (OpenSpec.ofChange plantCheapestSpec)

/-- ITS FALSE NEIGHBOUR: 'it returns false'. Refute it at one input. -/
def plantCheapestWrong : ChangeSpec := { name := "plantCheapest", fn := fun _ => fun
  | [d1, d2, d3, d4, d5] => { results := [.lit (.bool false)], args := [d1, d2, d3, d4, d5] }
  | _ => none }
def PlantCheapestWrongFalsely : Prop := plantCheapestRow.holds Tryd.pinned (OpenSpec.ofChange plantCheapestWrong)

/-- 'besomlaw12.PlantMatches': WHATEVER THE INPUT: true; the input reads as it did. -/
def plantMatchesSpec : ChangeSpec := { name := "plantMatches", fn := fun _ => fun
  | [d] => { results := [.lit (.bool true)], args := [d] }
  | _ => none }
def plantMatchesRow : OpenClaim := { program := "ytcebebhaahpoiaadoor", sum := "b1ff46bd7f41d711ca2653cc089ec5fe7af2813bc3a3d4cf5f4f8b9065c0f451", func := "besom/besomlaw12.PlantMatches", spec := "plantMatches", unfollowed := true, recurses := true, named := ["math/bits.deBruijn32tab", "math/bits.deBruijn64tab"], plainKeys := false, apart := false, laid := [("math/bits.deBruijn32tab", laid_math_bits_deBruijn32tab), ("math/bits.deBruijn64tab", laid_math_bits_deBruijn64tab)] }
def PlantMatchesSaid : Prop := plantMatchesRow.holds Tryd.pinned (OpenSpec.ofChange plantMatchesSpec)

/-- ITS FALSE NEIGHBOUR: 'it returns false'. Refute it at one input. -/
def plantMatchesWrong : ChangeSpec := { name := "plantMatches", fn := fun _ => fun
  | [d] => { results := [.lit (.bool false)], args := [d] }
  | _ => none }
def PlantMatchesWrongFalsely : Prop := plantMatchesRow.holds Tryd.pinned (OpenSpec.ofChange plantMatchesWrong)

/-- 'besomlaw12.PlantPairs': WHATEVER THE INPUT: true; the input reads as it did. -/
def plantPairsSpec : ChangeSpec := { name := "plantPairs", fn := fun _ => fun
  | [d1, d2] => { results := [.lit (.bool true)], args := [d1, d2] }
  | _ => none }
def plantPairsRow : OpenClaim := { program := "ytcebebhaahpoiaadoor", sum := "b1ff46bd7f41d711ca2653cc089ec5fe7af2813bc3a3d4cf5f4f8b9065c0f451", func := "besom/besomlaw12.PlantPairs", spec := "plantPairs", unfollowed := true, recurses := true, named := ["math/bits.deBruijn32tab", "math/bits.deBruijn64tab"], plainKeys := false, apart := false, laid := [("math/bits.deBruijn32tab", laid_math_bits_deBruijn32tab), ("math/bits.deBruijn64tab", laid_math_bits_deBruijn64tab)] }
def PlantPairsSaid : Prop := plantPairsRow.holds Tryd.pinned (OpenSpec.ofChange plantPairsSpec)

/-- ITS FALSE NEIGHBOUR: 'it returns false'. Refute it at one input. -/
def plantPairsWrong : ChangeSpec := { name := "plantPairs", fn := fun _ => fun
  | [d1, d2] => { results := [.lit (.bool false)], args := [d1, d2] }
  | _ => none }
def PlantPairsWrongFalsely : Prop := plantPairsRow.holds Tryd.pinned (OpenSpec.ofChange plantPairsWrong)

/-- 'besomlaw12.PlantRotations': WHATEVER THE INPUT: true; the input reads as it did. -/
def plantRotationsSpec : ChangeSpec := { name := "plantRotations", fn := fun _ => fun
  | [d1, d2] => { results := [.lit (.bool true)], args := [d1, d2] }
  | _ => none }
def plantRotationsRow : OpenClaim := { program := "ytcebebhaahpoiaadoor", sum := "b1ff46bd7f41d711ca2653cc089ec5fe7af2813bc3a3d4cf5f4f8b9065c0f451", func := "besom/besomlaw12.PlantRotations", spec := "plantRotations", unfollowed := true, recurses := true, named := ["math/bits.deBruijn32tab", "math/bits.deBruijn64tab"], plainKeys := false, apart := false, laid := [("math/bits.deBruijn32tab", laid_math_bits_deBruijn32tab), ("math/bits.deBruijn64tab", laid_math_bits_deBruijn64tab)] }
def PlantRotationsSaid : Prop := plantRotationsRow.holds Tryd.pinned (OpenSpec.ofChange plantRotationsSpec)

/-- ITS FALSE NEIGHBOUR: 'it returns false'. Refute it at one input. -/
def plantRotationsWrong : ChangeSpec := { name := "plantRotations", fn := fun _ => fun
  | [d1, d2] => { results := [.lit (.bool false)], args := [d1, d2] }
  | _ => none }
def PlantRotationsWrongFalsely : Prop := plantRotationsRow.holds Tryd.pinned (OpenSpec.ofChange plantRotationsWrong)

/-- 'besomlaw12.PlantTurns': WHATEVER THE INPUT: true; the input reads as it did. -/
def plantTurnsSpec : ChangeSpec := { name := "plantTurns", fn := fun _ => fun
  | [d1, d2] => { results := [.lit (.bool true)], args := [d1, d2] }
  | _ => none }
def plantTurnsRow : OpenClaim := { program := "ytcebebhaahpoiaadoor", sum := "b1ff46bd7f41d711ca2653cc089ec5fe7af2813bc3a3d4cf5f4f8b9065c0f451", func := "besom/besomlaw12.PlantTurns", spec := "plantTurns", unfollowed := true, recurses := true, named := ["math/bits.deBruijn32tab", "math/bits.deBruijn64tab"], plainKeys := false, apart := false, laid := [("math/bits.deBruijn32tab", laid_math_bits_deBruijn32tab), ("math/bits.deBruijn64tab", laid_math_bits_deBruijn64tab)] }
def PlantTurnsSaid : Prop := plantTurnsRow.holds Tryd.pinned (OpenSpec.ofChange plantTurnsSpec)

/-- ITS FALSE NEIGHBOUR: 'it returns false'. Refute it at one input. -/
def plantTurnsWrong : ChangeSpec := { name := "plantTurns", fn := fun _ => fun
  | [d1, d2] => { results := [.lit (.bool false)], args := [d1, d2] }
  | _ => none }
def PlantTurnsWrongFalsely : Prop := plantTurnsRow.holds Tryd.pinned (OpenSpec.ofChange plantTurnsWrong)

/-- 'besomlaw12.PlantHeats': WHATEVER THE INPUT: true; the input reads as it did. -/
def plantHeatsSpec : ChangeSpec := { name := "plantHeats", fn := fun _ => fun
  | [d1, d2] => { results := [.lit (.bool true)], args := [d1, d2] }
  | _ => none }
def plantHeatsRow : OpenClaim := { program := "ytcebebhaahpoiaadoor", sum := "b1ff46bd7f41d711ca2653cc089ec5fe7af2813bc3a3d4cf5f4f8b9065c0f451", func := "besom/besomlaw12.PlantHeats", spec := "plantHeats", unfollowed := true, recurses := true, named := ["math/bits.deBruijn32tab", "math/bits.deBruijn64tab"], plainKeys := false, apart := false, laid := [("math/bits.deBruijn32tab", laid_math_bits_deBruijn32tab), ("math/bits.deBruijn64tab", laid_math_bits_deBruijn64tab)] }
def PlantHeatsSaid : Prop := plantHeatsRow.holds Tryd.pinned (OpenSpec.ofChange plantHeatsSpec)

/-- ITS FALSE NEIGHBOUR: 'it returns false'. Refute it at one input. -/
def plantHeatsWrong : ChangeSpec := { name := "plantHeats", fn := fun _ => fun
  | [d1, d2] => { results := [.lit (.bool false)], args := [d1, d2] }
  | _ => none }
def PlantHeatsWrongFalsely : Prop := plantHeatsRow.holds Tryd.pinned (OpenSpec.ofChange plantHeatsWrong)

/- THE SECOND FORM. 'bulk': how many values and letters a reading holds, each counted each time it is reached (what is shared counts as often as it is met; a slice's spare places count too). A statement '..UptoSaid' is the law's where the arguments, and the package variables that the reading takes, are together of bulk at most 1048576: NARROWER than '..Said'. Prove '..Said' where nothing that the law and all that it calls make is longer than what came in: it says more and counts as full. Else prove '..UptoSaid'. A law counts once. -/
mutual
def uptoBulk {H : Type} : DataW H → Nat
  | .lit (.string bytes) => bytes.length + 1
  | .lit _ => 1
  | .nil => 1
  | .ptr d => uptoBulk d + 1
  | .slice elems spare => uptoBulkAll elems + uptoBulkAll spare + 1
  | .agg parts => uptoBulkAll parts + 1
  | .iface _ d => uptoBulk d + 1
  | .map entries => uptoBulkEntries entries + 1
  | .held _ => 1
def uptoBulkAll {H : Type} : List (DataW H) → Nat
  | [] => 0
  | d :: r => uptoBulk d + uptoBulkAll r
def uptoBulkEntries {H : Type} : List (Lit × DataW H) → Nat
  | [] => 0
  | x :: r => uptoBulkEntry x + uptoBulkEntries r
def uptoBulkEntry {H : Type} : Lit × DataW H → Nat
  | (.string bytes, d) => bytes.length + uptoBulk d + 1
  | (_, d) => uptoBulk d + 1
 end
def uptoSmall : (H : Type) → List (DataW H) → Bool := fun _ ds => decide (uptoBulkAll ds ≤ 1048576)
def OpenSpec.upto (s : _root_.Go.ChangeSpec) : _root_.Go.OpenSpec := { _root_.Go.OpenSpec.ofChange s with cond := some uptoSmall }

/-- 'besomlaw12.PlantCools', WHERE WHAT IT READS IS OF BULK AT MOST 1048576: true; the input reads as it did. -/
def plantCoolsUptoRow : OpenClaim := { program := "ytcebebhaahpoiaadoor", sum := "b1ff46bd7f41d711ca2653cc089ec5fe7af2813bc3a3d4cf5f4f8b9065c0f451", func := "besom/besomlaw12.PlantCools", spec := "plantCools", unfollowed := true, recurses := true, named := ["math/bits.deBruijn32tab", "math/bits.deBruijn64tab"], plainKeys := false, apart := false, laid := [("math/bits.deBruijn32tab", laid_math_bits_deBruijn32tab), ("math/bits.deBruijn64tab", laid_math_bits_deBruijn64tab)], narrowed := true }
def PlantCoolsUptoSaid : Prop := plantCoolsUptoRow.holds Tryd.pinned (OpenSpec.upto plantCoolsSpec)

/-- 'besomlaw12.PlantCheapest', WHERE WHAT IT READS IS OF BULK AT MOST 1048576: true; the input reads as it did. -/
def plantCheapestUptoRow : OpenClaim := { program := "ytcebebhaahpoiaadoor", sum := "b1ff46bd7f41d711ca2653cc089ec5fe7af2813bc3a3d4cf5f4f8b9065c0f451", func := "besom/besomlaw12.PlantCheapest", spec := "plantCheapest", unfollowed := true, recurses := true, named := ["math/bits.deBruijn32tab", "math/bits.deBruijn64tab"], plainKeys := false, apart := false, laid := [("math/bits.deBruijn32tab", laid_math_bits_deBruijn32tab), ("math/bits.deBruijn64tab", laid_math_bits_deBruijn64tab)], narrowed := true }
def PlantCheapestUptoSaid : Prop := plantCheapestUptoRow.holds Tryd.pinned (OpenSpec.upto plantCheapestSpec)

/-- 'besomlaw12.PlantMatches', WHERE WHAT IT READS IS OF BULK AT MOST 1048576: true; the input reads as it did. -/
def plantMatchesUptoRow : OpenClaim := { program := "ytcebebhaahpoiaadoor", sum := "b1ff46bd7f41d711ca2653cc089ec5fe7af2813bc3a3d4cf5f4f8b9065c0f451", func := "besom/besomlaw12.PlantMatches", spec := "plantMatches", unfollowed := true, recurses := true, named := ["math/bits.deBruijn32tab", "math/bits.deBruijn64tab"], plainKeys := false, apart := false, laid := [("math/bits.deBruijn32tab", laid_math_bits_deBruijn32tab), ("math/bits.deBruijn64tab", laid_math_bits_deBruijn64tab)], narrowed := true }
def PlantMatchesUptoSaid : Prop := plantMatchesUptoRow.holds Tryd.pinned (OpenSpec.upto plantMatchesSpec)

/-- 'besomlaw12.PlantPairs', WHERE WHAT IT READS IS OF BULK AT MOST 1048576: true; the input reads as it did. -/
def plantPairsUptoRow : OpenClaim := { program := "ytcebebhaahpoiaadoor", sum := "b1ff46bd7f41d711ca2653cc089ec5fe7af2813bc3a3d4cf5f4f8b9065c0f451", func := "besom/besomlaw12.PlantPairs", spec := "plantPairs", unfollowed := true, recurses := true, named := ["math/bits.deBruijn32tab", "math/bits.deBruijn64tab"], plainKeys := false, apart := false, laid := [("math/bits.deBruijn32tab", laid_math_bits_deBruijn32tab), ("math/bits.deBruijn64tab", laid_math_bits_deBruijn64tab)], narrowed := true }
def PlantPairsUptoSaid : Prop := plantPairsUptoRow.holds Tryd.pinned (OpenSpec.upto plantPairsSpec)

/-- 'besomlaw12.PlantRotations', WHERE WHAT IT READS IS OF BULK AT MOST 1048576: true; the input reads as it did. -/
def plantRotationsUptoRow : OpenClaim := { program := "ytcebebhaahpoiaadoor", sum := "b1ff46bd7f41d711ca2653cc089ec5fe7af2813bc3a3d4cf5f4f8b9065c0f451", func := "besom/besomlaw12.PlantRotations", spec := "plantRotations", unfollowed := true, recurses := true, named := ["math/bits.deBruijn32tab", "math/bits.deBruijn64tab"], plainKeys := false, apart := false, laid := [("math/bits.deBruijn32tab", laid_math_bits_deBruijn32tab), ("math/bits.deBruijn64tab", laid_math_bits_deBruijn64tab)], narrowed := true }
def PlantRotationsUptoSaid : Prop := plantRotationsUptoRow.holds Tryd.pinned (OpenSpec.upto plantRotationsSpec)

/-- 'besomlaw12.PlantTurns', WHERE WHAT IT READS IS OF BULK AT MOST 1048576: true; the input reads as it did. -/
def plantTurnsUptoRow : OpenClaim := { program := "ytcebebhaahpoiaadoor", sum := "b1ff46bd7f41d711ca2653cc089ec5fe7af2813bc3a3d4cf5f4f8b9065c0f451", func := "besom/besomlaw12.PlantTurns", spec := "plantTurns", unfollowed := true, recurses := true, named := ["math/bits.deBruijn32tab", "math/bits.deBruijn64tab"], plainKeys := false, apart := false, laid := [("math/bits.deBruijn32tab", laid_math_bits_deBruijn32tab), ("math/bits.deBruijn64tab", laid_math_bits_deBruijn64tab)], narrowed := true }
def PlantTurnsUptoSaid : Prop := plantTurnsUptoRow.holds Tryd.pinned (OpenSpec.upto plantTurnsSpec)

/-- 'besomlaw12.PlantHeats', WHERE WHAT IT READS IS OF BULK AT MOST 1048576: true; the input reads as it did. -/
def plantHeatsUptoRow : OpenClaim := { program := "ytcebebhaahpoiaadoor", sum := "b1ff46bd7f41d711ca2653cc089ec5fe7af2813bc3a3d4cf5f4f8b9065c0f451", func := "besom/besomlaw12.PlantHeats", spec := "plantHeats", unfollowed := true, recurses := true, named := ["math/bits.deBruijn32tab", "math/bits.deBruijn64tab"], plainKeys := false, apart := false, laid := [("math/bits.deBruijn32tab", laid_math_bits_deBruijn32tab), ("math/bits.deBruijn64tab", laid_math_bits_deBruijn64tab)], narrowed := true }
def PlantHeatsUptoSaid : Prop := plantHeatsUptoRow.holds Tryd.pinned (OpenSpec.upto plantHeatsSpec)

end Rows
end Go.Proofs.YtcebebhaahpoiaaDoor
