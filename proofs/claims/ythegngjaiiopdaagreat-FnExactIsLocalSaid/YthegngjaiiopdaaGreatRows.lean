/-
  No cell of these rows narrows 'for every input' (looked for: loops, veiled, ifaces, maps, wideKeys, modest, calm, conditions, laid).
  DERIVED. THE GIVEN ROWS OF THIS SEAT. 4 by the template 'for every input the law returns true; each argument reads behind the call as it read before'; 0 by the template 'total and deterministic' (their statements: YthegngjaiiopdaaGreatTotals.lean).
  GIVEN WITH THE SEED: the statements are not yours to turn. If you find one false, say at which input.
  Laid BY PROGRAM, IN A SANDBOX (cutbox-rows.mjs): the forced cells as the released guide's own fill.sh prints them over the translation 424cd2d4e83195ab… (all of the seat's roots in one cut). By AI agents, Wed Nov 11 2026. No macro, syntax, notation, axiom, sorry.
-/
import Derived.Test.YthegngjaiiopdaaGreatChecked
import GoSem.Claim
import GoSem.ClaimJoined
import GoSem.ClaimMapViews
import Derived.JoinedTies
import Derived.KernelRfl
namespace Go.Proofs.YthegngjaiiopdaaGreat
/- THE CELL 'sum', in the pinned program and in every row, IS THE sha256 OF THE DUMP (.gsa) THAT YthegngjaiiopdaaGreatProg.lean LOADS. Nothing in Lean hashes anything: it is a label: what it is worth is what the hold of that sum in a sandbox is worth. -/
noncomputable def Tryz.pinned : Pinned := { name := "ythegngjaiiopdaagreat", sum := "424cd2d4e83195ab7b62370c4915d52588fd8d5c28e34418949311964c253428", checked := Tryz.checked }
namespace Rows
def none {H : Type} : Left H := { results := [], args := [] }

/-- 'laws.FnExactSequenceOdds': WHATEVER THE INPUT: true; the input reads as it did. -/
def fnExactSequenceOddsSpec : ChangeSpec := { name := "fnExactSequenceOdds", fn := fun _ => fun
  | [d1, d2, d3] => { results := [.lit (.bool true)], args := [d1, d2, d3] }
  | _ => none }
def fnExactSequenceOddsRow : OpenClaim := { program := "ythegngjaiiopdaagreat", sum := "424cd2d4e83195ab7b62370c4915d52588fd8d5c28e34418949311964c253428", func := "loop.example/g01081/laws.FnExactSequenceOdds", spec := "fnExactSequenceOdds", unfollowed := true, recurses := true, plainKeys := false, apart := false }
def FnExactSequenceOddsSaid : Prop := fnExactSequenceOddsRow.holds Tryz.pinned (OpenSpec.ofChange fnExactSequenceOddsSpec)

/-- ITS FALSE NEIGHBOUR: 'it returns false'. Refute it at one input. -/
def fnExactSequenceOddsWrong : ChangeSpec := { name := "fnExactSequenceOdds", fn := fun _ => fun
  | [d1, d2, d3] => { results := [.lit (.bool false)], args := [d1, d2, d3] }
  | _ => none }
def FnExactSequenceOddsWrongFalsely : Prop := fnExactSequenceOddsRow.holds Tryz.pinned (OpenSpec.ofChange fnExactSequenceOddsWrong)

/-- 'laws.FnExactSequenceTime': WHATEVER THE INPUT: true; the input reads as it did. -/
def fnExactSequenceTimeSpec : ChangeSpec := { name := "fnExactSequenceTime", fn := fun _ => fun
  | [d1, d2, d3] => { results := [.lit (.bool true)], args := [d1, d2, d3] }
  | _ => none }
def fnExactSequenceTimeRow : OpenClaim := { program := "ythegngjaiiopdaagreat", sum := "424cd2d4e83195ab7b62370c4915d52588fd8d5c28e34418949311964c253428", func := "loop.example/g01081/laws.FnExactSequenceTime", spec := "fnExactSequenceTime", unfollowed := true, recurses := true, plainKeys := false, apart := false }
def FnExactSequenceTimeSaid : Prop := fnExactSequenceTimeRow.holds Tryz.pinned (OpenSpec.ofChange fnExactSequenceTimeSpec)

/-- ITS FALSE NEIGHBOUR: 'it returns false'. Refute it at one input. -/
def fnExactSequenceTimeWrong : ChangeSpec := { name := "fnExactSequenceTime", fn := fun _ => fun
  | [d1, d2, d3] => { results := [.lit (.bool false)], args := [d1, d2, d3] }
  | _ => none }
def FnExactSequenceTimeWrongFalsely : Prop := fnExactSequenceTimeRow.holds Tryz.pinned (OpenSpec.ofChange fnExactSequenceTimeWrong)

/-- 'laws.FnExactLocalFault': WHATEVER THE INPUT: true; the input reads as it did. -/
def fnExactLocalFaultSpec : ChangeSpec := { name := "fnExactLocalFault", fn := fun _ => fun
  | [d1, d2] => { results := [.lit (.bool true)], args := [d1, d2] }
  | _ => none }
def fnExactLocalFaultRow : OpenClaim := { program := "ythegngjaiiopdaagreat", sum := "424cd2d4e83195ab7b62370c4915d52588fd8d5c28e34418949311964c253428", func := "loop.example/g01081/laws.FnExactLocalFault", spec := "fnExactLocalFault", unfollowed := true, recurses := true, plainKeys := false, apart := false }
def FnExactLocalFaultSaid : Prop := fnExactLocalFaultRow.holds Tryz.pinned (OpenSpec.ofChange fnExactLocalFaultSpec)

/-- ITS FALSE NEIGHBOUR: 'it returns false'. Refute it at one input. -/
def fnExactLocalFaultWrong : ChangeSpec := { name := "fnExactLocalFault", fn := fun _ => fun
  | [d1, d2] => { results := [.lit (.bool false)], args := [d1, d2] }
  | _ => none }
def FnExactLocalFaultWrongFalsely : Prop := fnExactLocalFaultRow.holds Tryz.pinned (OpenSpec.ofChange fnExactLocalFaultWrong)

/-- 'laws.FnExactIsLocal': WHATEVER THE INPUT: true; the input reads as it did. -/
def fnExactIsLocalSpec : ChangeSpec := { name := "fnExactIsLocal", fn := fun _ => fun
  | [d1, d2] => { results := [.lit (.bool true)], args := [d1, d2] }
  | _ => none }
def fnExactIsLocalRow : OpenClaim := { program := "ythegngjaiiopdaagreat", sum := "424cd2d4e83195ab7b62370c4915d52588fd8d5c28e34418949311964c253428", func := "loop.example/g01081/laws.FnExactIsLocal", spec := "fnExactIsLocal", unfollowed := true, recurses := true, plainKeys := false, apart := false }
def FnExactIsLocalSaid : Prop := fnExactIsLocalRow.holds Tryz.pinned (OpenSpec.ofChange fnExactIsLocalSpec)

/-- ITS FALSE NEIGHBOUR: 'it returns false'. Refute it at one input. -/
def fnExactIsLocalWrong : ChangeSpec := { name := "fnExactIsLocal", fn := fun _ => fun
  | [d1, d2] => { results := [.lit (.bool false)], args := [d1, d2] }
  | _ => none }
def FnExactIsLocalWrongFalsely : Prop := fnExactIsLocalRow.holds Tryz.pinned (OpenSpec.ofChange fnExactIsLocalWrong)

/- THE SECOND FORM. 'bulk': how many values and letters a reading holds, each counted each time it is reached (what is shared counts as often as it is met; a slice's spare places count too). A statement '..UptoSaid' is the law's where the arguments, and the package variables that the reading takes, are together of bulk at most 1048576: NARROWER than '..Said'. Prove '..Said' where nothing that the law and all that it calls make is longer than what came in: it says more and counts as full. Else prove '..UptoSaid'. A law counts once. -/
mutual
def uptoBulk {H : Type} : DataW H → Nat
  | .lit (.string bytes) => bytes.length + 1
  | .lit _ => 1
  | .nil => 1
  | .ptr d => uptoBulk d + 1
  | .slice elems spare => uptoBulkAll elems + uptoBulkAll spare + 1
  | .agg parts => uptoBulkAll parts + 1
  | .iface _ d => uptoBulk d + 1
  | .map entries => uptoBulkEntries entries + 1
  | .held _ => 1
def uptoBulkAll {H : Type} : List (DataW H) → Nat
  | [] => 0
  | d :: r => uptoBulk d + uptoBulkAll r
def uptoBulkEntries {H : Type} : List (Lit × DataW H) → Nat
  | [] => 0
  | x :: r => uptoBulkEntry x + uptoBulkEntries r
def uptoBulkEntry {H : Type} : Lit × DataW H → Nat
  | (.string bytes, d) => bytes.length + uptoBulk d + 1
  | (_, d) => uptoBulk d + 1
 end
def uptoSmall : (H : Type) → List (DataW H) → Bool := fun _ ds => decide (uptoBulkAll ds ≤ 1048576)
def OpenSpec.upto (s : _root_.Go.ChangeSpec) : _root_.Go.OpenSpec := { _root_.Go.OpenSpec.ofChange s with cond := some uptoSmall }

/-- 'laws.FnExactSequenceOdds', WHERE WHAT IT READS IS OF BULK AT MOST 1048576: true; the input reads as it did. -/
def fnExactSequenceOddsUptoRow : OpenClaim := { program := "ythegngjaiiopdaagreat", sum := "424cd2d4e83195ab7b62370c4915d52588fd8d5c28e34418949311964c253428", func := "loop.example/g01081/laws.FnExactSequenceOdds", spec := "fnExactSequenceOdds", unfollowed := true, recurses := true, plainKeys := false, apart := false, narrowed := true }
def FnExactSequenceOddsUptoSaid : Prop := fnExactSequenceOddsUptoRow.holds Tryz.pinned (OpenSpec.upto fnExactSequenceOddsSpec)

/-- 'laws.FnExactSequenceTime', WHERE WHAT IT READS IS OF BULK AT MOST 1048576: true; the input reads as it did. -/
def fnExactSequenceTimeUptoRow : OpenClaim := { program := "ythegngjaiiopdaagreat", sum := "424cd2d4e83195ab7b62370c4915d52588fd8d5c28e34418949311964c253428", func := "loop.example/g01081/laws.FnExactSequenceTime", spec := "fnExactSequenceTime", unfollowed := true, recurses := true, plainKeys := false, apart := false, narrowed := true }
def FnExactSequenceTimeUptoSaid : Prop := fnExactSequenceTimeUptoRow.holds Tryz.pinned (OpenSpec.upto fnExactSequenceTimeSpec)

/-- 'laws.FnExactLocalFault', WHERE WHAT IT READS IS OF BULK AT MOST 1048576: true; the input reads as it did. -/
def fnExactLocalFaultUptoRow : OpenClaim := { program := "ythegngjaiiopdaagreat", sum := "424cd2d4e83195ab7b62370c4915d52588fd8d5c28e34418949311964c253428", func := "loop.example/g01081/laws.FnExactLocalFault", spec := "fnExactLocalFault", unfollowed := true, recurses := true, plainKeys := false, apart := false, narrowed := true }
def FnExactLocalFaultUptoSaid : Prop := fnExactLocalFaultUptoRow.holds Tryz.pinned (OpenSpec.upto fnExactLocalFaultSpec)

/-- 'laws.FnExactIsLocal', WHERE WHAT IT READS IS OF BULK AT MOST 1048576: true; the input reads as it did. -/
def fnExactIsLocalUptoRow : OpenClaim := { program := "ythegngjaiiopdaagreat", sum := "424cd2d4e83195ab7b62370c4915d52588fd8d5c28e34418949311964c253428", func := "loop.example/g01081/laws.FnExactIsLocal", spec := "fnExactIsLocal", unfollowed := true, recurses := true, plainKeys := false, apart := false, narrowed := true }
def FnExactIsLocalUptoSaid : Prop := fnExactIsLocalUptoRow.holds Tryz.pinned (OpenSpec.upto fnExactIsLocalSpec)

end Rows
end Go.Proofs.YthegngjaiiopdaaGreat
