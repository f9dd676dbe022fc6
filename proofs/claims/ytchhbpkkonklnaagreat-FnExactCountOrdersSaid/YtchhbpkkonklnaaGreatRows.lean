/-
  No cell of these rows narrows 'for every input' (looked for: loops, veiled, ifaces, maps, wideKeys, modest, calm, conditions, laid).
  DERIVED. THE GIVEN ROWS OF THIS SEAT. 6 by the template 'for every input the law returns true; each argument reads behind the call as it read before'; 0 by the template 'total and deterministic' (their statements: YtchhbpkkonklnaaGreatTotals.lean).
  GIVEN WITH THE SEED: the statements are not yours to turn. If you find one false, say at which input.
  Laid BY PROGRAM, IN A SANDBOX (cutbox-rows.mjs): the forced cells as the released guide's own fill.sh prints them over the translation f971f11ac7ae565b… (all of the seat's roots in one cut). By AI agents, Wed Nov 11 2026. No macro, syntax, notation, axiom, sorry.
-/
import Derived.Test.YtchhbpkkonklnaaGreatChecked
import GoSem.Claim
import GoSem.ClaimJoined
import GoSem.ClaimMapViews
import Derived.JoinedTies
import Derived.KernelRfl
namespace Go.Proofs.YtchhbpkkonklnaaGreat
/- THE CELL 'sum', in the pinned program and in every row, IS THE sha256 OF THE DUMP (.gsa) THAT YtchhbpkkonklnaaGreatProg.lean LOADS. Nothing in Lean hashes anything: it is a label: what it is worth is what the hold of that sum in a sandbox is worth. -/
noncomputable def Tryz.pinned : Pinned := { name := "ytchhbpkkonklnaagreat", sum := "f971f11ac7ae565b79d15c18bcb0eac13bb7252d40e4b7ee1b957268b46460c9", checked := Tryz.checked }
namespace Rows
def none {H : Type} : Left H := { results := [], args := [] }

/-- 'laws.FnExactCountOrders': WHATEVER THE INPUT: true; the input reads as it did. -/
def fnExactCountOrdersSpec : ChangeSpec := { name := "fnExactCountOrders", fn := fun _ => fun
  | [d1, d2, d3] => { results := [.lit (.bool true)], args := [d1, d2, d3] }
  | _ => none }
def fnExactCountOrdersRow : OpenClaim := { program := "ytchhbpkkonklnaagreat", sum := "f971f11ac7ae565b79d15c18bcb0eac13bb7252d40e4b7ee1b957268b46460c9", func := "loop.example/g01081/laws.FnExactCountOrders", spec := "fnExactCountOrders", unfollowed := true, recurses := true, plainKeys := false, apart := false }
def FnExactCountOrdersSaid : Prop := fnExactCountOrdersRow.holds Tryz.pinned (OpenSpec.ofChange fnExactCountOrdersSpec)

/-- ITS FALSE NEIGHBOUR: 'it returns false'. Refute it at one input. -/
def fnExactCountOrdersWrong : ChangeSpec := { name := "fnExactCountOrders", fn := fun _ => fun
  | [d1, d2, d3] => { results := [.lit (.bool false)], args := [d1, d2, d3] }
  | _ => none }
def FnExactCountOrdersWrongFalsely : Prop := fnExactCountOrdersRow.holds Tryz.pinned (OpenSpec.ofChange fnExactCountOrdersWrong)

/-- 'laws.FnExactLevelsOf': WHATEVER THE INPUT: true; the input reads as it did. -/
def fnExactLevelsOfSpec : ChangeSpec := { name := "fnExactLevelsOf", fn := fun _ => fun
  | [d1, d2] => { results := [.lit (.bool true)], args := [d1, d2] }
  | _ => none }
def fnExactLevelsOfRow : OpenClaim := { program := "ytchhbpkkonklnaagreat", sum := "f971f11ac7ae565b79d15c18bcb0eac13bb7252d40e4b7ee1b957268b46460c9", func := "loop.example/g01081/laws.FnExactLevelsOf", spec := "fnExactLevelsOf", unfollowed := true, recurses := true, plainKeys := false, apart := false }
def FnExactLevelsOfSaid : Prop := fnExactLevelsOfRow.holds Tryz.pinned (OpenSpec.ofChange fnExactLevelsOfSpec)

/-- ITS FALSE NEIGHBOUR: 'it returns false'. Refute it at one input. -/
def fnExactLevelsOfWrong : ChangeSpec := { name := "fnExactLevelsOf", fn := fun _ => fun
  | [d1, d2] => { results := [.lit (.bool false)], args := [d1, d2] }
  | _ => none }
def FnExactLevelsOfWrongFalsely : Prop := fnExactLevelsOfRow.holds Tryz.pinned (OpenSpec.ofChange fnExactLevelsOfWrong)

/-- 'laws.FnExactNeedsOf': WHATEVER THE INPUT: true; the input reads as it did. -/
def fnExactNeedsOfSpec : ChangeSpec := { name := "fnExactNeedsOf", fn := fun _ => fun
  | [d1, d2] => { results := [.lit (.bool true)], args := [d1, d2] }
  | _ => none }
def fnExactNeedsOfRow : OpenClaim := { program := "ytchhbpkkonklnaagreat", sum := "f971f11ac7ae565b79d15c18bcb0eac13bb7252d40e4b7ee1b957268b46460c9", func := "loop.example/g01081/laws.FnExactNeedsOf", spec := "fnExactNeedsOf", unfollowed := true, recurses := true, plainKeys := false, apart := false }
def FnExactNeedsOfSaid : Prop := fnExactNeedsOfRow.holds Tryz.pinned (OpenSpec.ofChange fnExactNeedsOfSpec)

/-- ITS FALSE NEIGHBOUR: 'it returns false'. Refute it at one input. -/
def fnExactNeedsOfWrong : ChangeSpec := { name := "fnExactNeedsOf", fn := fun _ => fun
  | [d1, d2] => { results := [.lit (.bool false)], args := [d1, d2] }
  | _ => none }
def FnExactNeedsOfWrongFalsely : Prop := fnExactNeedsOfRow.holds Tryz.pinned (OpenSpec.ofChange fnExactNeedsOfWrong)

/-- 'laws.FnExactAncestorsOf': WHATEVER THE INPUT: true; the input reads as it did. -/
def fnExactAncestorsOfSpec : ChangeSpec := { name := "fnExactAncestorsOf", fn := fun _ => fun
  | [d1, d2, d3] => { results := [.lit (.bool true)], args := [d1, d2, d3] }
  | _ => none }
def fnExactAncestorsOfRow : OpenClaim := { program := "ytchhbpkkonklnaagreat", sum := "f971f11ac7ae565b79d15c18bcb0eac13bb7252d40e4b7ee1b957268b46460c9", func := "loop.example/g01081/laws.FnExactAncestorsOf", spec := "fnExactAncestorsOf", unfollowed := true, recurses := true, plainKeys := false, apart := false }
def FnExactAncestorsOfSaid : Prop := fnExactAncestorsOfRow.holds Tryz.pinned (OpenSpec.ofChange fnExactAncestorsOfSpec)

/-- ITS FALSE NEIGHBOUR: 'it returns false'. Refute it at one input. -/
def fnExactAncestorsOfWrong : ChangeSpec := { name := "fnExactAncestorsOf", fn := fun _ => fun
  | [d1, d2, d3] => { results := [.lit (.bool false)], args := [d1, d2, d3] }
  | _ => none }
def FnExactAncestorsOfWrongFalsely : Prop := fnExactAncestorsOfRow.holds Tryz.pinned (OpenSpec.ofChange fnExactAncestorsOfWrong)

/-- 'laws.FnExactLongestChain': WHATEVER THE INPUT: true; the input reads as it did. -/
def fnExactLongestChainSpec : ChangeSpec := { name := "fnExactLongestChain", fn := fun _ => fun
  | [d1, d2] => { results := [.lit (.bool true)], args := [d1, d2] }
  | _ => none }
def fnExactLongestChainRow : OpenClaim := { program := "ytchhbpkkonklnaagreat", sum := "f971f11ac7ae565b79d15c18bcb0eac13bb7252d40e4b7ee1b957268b46460c9", func := "loop.example/g01081/laws.FnExactLongestChain", spec := "fnExactLongestChain", unfollowed := true, recurses := true, plainKeys := false, apart := false }
def FnExactLongestChainSaid : Prop := fnExactLongestChainRow.holds Tryz.pinned (OpenSpec.ofChange fnExactLongestChainSpec)

/-- ITS FALSE NEIGHBOUR: 'it returns false'. Refute it at one input. -/
def fnExactLongestChainWrong : ChangeSpec := { name := "fnExactLongestChain", fn := fun _ => fun
  | [d1, d2] => { results := [.lit (.bool false)], args := [d1, d2] }
  | _ => none }
def FnExactLongestChainWrongFalsely : Prop := fnExactLongestChainRow.holds Tryz.pinned (OpenSpec.ofChange fnExactLongestChainWrong)

/-- 'laws.FnExactLayersOf': WHATEVER THE INPUT: true; the input reads as it did. -/
def fnExactLayersOfSpec : ChangeSpec := { name := "fnExactLayersOf", fn := fun _ => fun
  | [d1, d2] => { results := [.lit (.bool true)], args := [d1, d2] }
  | _ => none }
def fnExactLayersOfRow : OpenClaim := { program := "ytchhbpkkonklnaagreat", sum := "f971f11ac7ae565b79d15c18bcb0eac13bb7252d40e4b7ee1b957268b46460c9", func := "loop.example/g01081/laws.FnExactLayersOf", spec := "fnExactLayersOf", unfollowed := true, recurses := true, plainKeys := false, apart := false }
def FnExactLayersOfSaid : Prop := fnExactLayersOfRow.holds Tryz.pinned (OpenSpec.ofChange fnExactLayersOfSpec)

/-- ITS FALSE NEIGHBOUR: 'it returns false'. Refute it at one input. -/
def fnExactLayersOfWrong : ChangeSpec := { name := "fnExactLayersOf", fn := fun _ => fun
  | [d1, d2] => { results := [.lit (.bool false)], args := [d1, d2] }
  | _ => none }
def FnExactLayersOfWrongFalsely : Prop := fnExactLayersOfRow.holds Tryz.pinned (OpenSpec.ofChange fnExactLayersOfWrong)

/- THE SECOND FORM. 'bulk': how many values and letters a reading holds, each counted each time it is reached (what is shared counts as often as it is met; a slice's spare places count too). A statement '..UptoSaid' is the law's where the arguments, and the package variables that the reading takes, are together of bulk at most 1048576: NARROWER than '..Said'. Prove '..Said' where nothing that the law and all that it calls make is longer than what came in: it says more and counts as full. Else prove '..UptoSaid'. A law counts once. -/
mutual
def uptoBulk {H : Type} : DataW H → Nat
  | .lit (.string bytes) => bytes.length + 1
  | .lit _ => 1
  | .nil => 1
  | .ptr d => uptoBulk d + 1
  | .slice elems spare => uptoBulkAll elems + uptoBulkAll spare + 1
  | .agg parts => uptoBulkAll parts + 1
  | .iface _ d => uptoBulk d + 1
  | .map entries => uptoBulkEntries entries + 1
  | .held _ => 1
def uptoBulkAll {H : Type} : List (DataW H) → Nat
  | [] => 0
  | d :: r => uptoBulk d + uptoBulkAll r
def uptoBulkEntries {H : Type} : List (Lit × DataW H) → Nat
  | [] => 0
  | x :: r => uptoBulkEntry x + uptoBulkEntries r
def uptoBulkEntry {H : Type} : Lit × DataW H → Nat
  | (.string bytes, d) => bytes.length + uptoBulk d + 1
  | (_, d) => uptoBulk d + 1
 end
def uptoSmall : (H : Type) → List (DataW H) → Bool := fun _ ds => decide (uptoBulkAll ds ≤ 1048576)
def OpenSpec.upto (s : _root_.Go.ChangeSpec) : _root_.Go.OpenSpec := { _root_.Go.OpenSpec.ofChange s with cond := some uptoSmall }

/-- 'laws.FnExactCountOrders', WHERE WHAT IT READS IS OF BULK AT MOST 1048576: true; the input reads as it did. -/
def fnExactCountOrdersUptoRow : OpenClaim := { program := "ytchhbpkkonklnaagreat", sum := "f971f11ac7ae565b79d15c18bcb0eac13bb7252d40e4b7ee1b957268b46460c9", func := "loop.example/g01081/laws.FnExactCountOrders", spec := "fnExactCountOrders", unfollowed := true, recurses := true, plainKeys := false, apart := false, narrowed := true }
def FnExactCountOrdersUptoSaid : Prop := fnExactCountOrdersUptoRow.holds Tryz.pinned (OpenSpec.upto fnExactCountOrdersSpec)

/-- 'laws.FnExactLevelsOf', WHERE WHAT IT READS IS OF BULK AT MOST 1048576: true; the input reads as it did. -/
def fnExactLevelsOfUptoRow : OpenClaim := { program := "ytchhbpkkonklnaagreat", sum := "f971f11ac7ae565b79d15c18bcb0eac13bb7252d40e4b7ee1b957268b46460c9", func := "loop.example/g01081/laws.FnExactLevelsOf", spec := "fnExactLevelsOf", unfollowed := true, recurses := true, plainKeys := false, apart := false, narrowed := true }
def FnExactLevelsOfUptoSaid : Prop := fnExactLevelsOfUptoRow.holds Tryz.pinned (OpenSpec.upto fnExactLevelsOfSpec)

/-- 'laws.FnExactNeedsOf', WHERE WHAT IT READS IS OF BULK AT MOST 1048576: true; the input reads as it did. -/
def fnExactNeedsOfUptoRow : OpenClaim := { program := "ytchhbpkkonklnaagreat", sum := "f971f11ac7ae565b79d15c18bcb0eac13bb7252d40e4b7ee1b957268b46460c9", func := "loop.example/g01081/laws.FnExactNeedsOf", spec := "fnExactNeedsOf", unfollowed := true, recurses := true, plainKeys := false, apart := false, narrowed := true }
def FnExactNeedsOfUptoSaid : Prop := fnExactNeedsOfUptoRow.holds Tryz.pinned (OpenSpec.upto fnExactNeedsOfSpec)

/-- 'laws.FnExactAncestorsOf', WHERE WHAT IT READS IS OF BULK AT MOST 1048576: true; the input reads as it did. -/
def fnExactAncestorsOfUptoRow : OpenClaim := { program := "ytchhbpkkonklnaagreat", sum := "f971f11ac7ae565b79d15c18bcb0eac13bb7252d40e4b7ee1b957268b46460c9", func := "loop.example/g01081/laws.FnExactAncestorsOf", spec := "fnExactAncestorsOf", unfollowed := true, recurses := true, plainKeys := false, apart := false, narrowed := true }
def FnExactAncestorsOfUptoSaid : Prop := fnExactAncestorsOfUptoRow.holds Tryz.pinned (OpenSpec.upto fnExactAncestorsOfSpec)

/-- 'laws.FnExactLongestChain', WHERE WHAT IT READS IS OF BULK AT MOST 1048576: true; the input reads as it did. -/
def fnExactLongestChainUptoRow : OpenClaim := { program := "ytchhbpkkonklnaagreat", sum := "f971f11ac7ae565b79d15c18bcb0eac13bb7252d40e4b7ee1b957268b46460c9", func := "loop.example/g01081/laws.FnExactLongestChain", spec := "fnExactLongestChain", unfollowed := true, recurses := true, plainKeys := false, apart := false, narrowed := true }
def FnExactLongestChainUptoSaid : Prop := fnExactLongestChainUptoRow.holds Tryz.pinned (OpenSpec.upto fnExactLongestChainSpec)

/-- 'laws.FnExactLayersOf', WHERE WHAT IT READS IS OF BULK AT MOST 1048576: true; the input reads as it did. -/
def fnExactLayersOfUptoRow : OpenClaim := { program := "ytchhbpkkonklnaagreat", sum := "f971f11ac7ae565b79d15c18bcb0eac13bb7252d40e4b7ee1b957268b46460c9", func := "loop.example/g01081/laws.FnExactLayersOf", spec := "fnExactLayersOf", unfollowed := true, recurses := true, plainKeys := false, apart := false, narrowed := true }
def FnExactLayersOfUptoSaid : Prop := fnExactLayersOfUptoRow.holds Tryz.pinned (OpenSpec.upto fnExactLayersOfSpec)

end Rows
end Go.Proofs.YtchhbpkkonklnaaGreat
