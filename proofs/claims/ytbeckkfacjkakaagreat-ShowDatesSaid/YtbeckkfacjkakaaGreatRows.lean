/-
  No cell of these rows narrows 'for every input' (looked for: loops, veiled, ifaces, maps, wideKeys, modest, calm, conditions, laid).
  DERIVED. THE GIVEN ROWS OF THIS SEAT. 3 by the template 'for every input the law returns true; each argument reads behind the call as it read before'; 0 by the template 'total and deterministic' (their statements: YtbeckkfacjkakaaGreatTotals.lean).
  GIVEN WITH THE SEED: the statements are not yours to turn. If you find one false, say at which input.
  Laid BY PROGRAM, IN A SANDBOX (cutbox-rows.mjs): the forced cells as the released guide's own fill.sh prints them over the translation 487df82bf41f77df… (all of the seat's roots in one cut). By AI agents, Wed Nov 11 2026. No macro, syntax, notation, axiom, sorry.
-/
import Derived.Test.YtbeckkfacjkakaaGreatChecked
import GoSem.Claim
import GoSem.ClaimJoined
import GoSem.ClaimMapViews
import Derived.JoinedTies
import Derived.KernelRfl
namespace Go.Proofs.YtbeckkfacjkakaaGreat
/- THE CELL 'sum', in the pinned program and in every row, IS THE sha256 OF THE DUMP (.gsa) THAT YtbeckkfacjkakaaGreatProg.lean LOADS. Nothing in Lean hashes anything: it is a label: what it is worth is what the hold of that sum in a sandbox is worth. -/
noncomputable def Tryz.pinned : Pinned := { name := "ytbeckkfacjkakaagreat", sum := "487df82bf41f77dfaa76271723e77f37e5c8adda239a11160a3e77fec7358c0d", checked := Tryz.checked }
namespace Rows
def none {H : Type} : Left H := { results := [], args := [] }

/-- 'computuslaw19.ShowDates': WHATEVER THE INPUT: true; the input reads as it did. -/
def showDatesSpec : ChangeSpec := { name := "showDates", fn := fun _ => fun
  | [d1, d2, d3] => { results := [.lit (.bool true)], args := [d1, d2, d3] }
  | _ => none }
def showDatesRow : OpenClaim := { program := "ytbeckkfacjkakaagreat", sum := "487df82bf41f77dfaa76271723e77f37e5c8adda239a11160a3e77fec7358c0d", func := "computus/computuslaw19.ShowDates", spec := "showDates", inPlace := ["internal/abi.NoEscape", "internal/bytealg.MakeNoZero", "math/bits.Add64", "internal/bytealg.IndexByteString", "internal/bytealg.IndexString"], named := ["math/bits.divideError", "math/bits.overflowError", "internal/bytealg.MaxLen"], apart := false }
def ShowDatesSaid : Prop := showDatesRow.holds Tryz.pinned (OpenSpec.ofChange showDatesSpec)

/-- ITS FALSE NEIGHBOUR: 'it returns false'. Refute it at one input. -/
def showDatesWrong : ChangeSpec := { name := "showDates", fn := fun _ => fun
  | [d1, d2, d3] => { results := [.lit (.bool false)], args := [d1, d2, d3] }
  | _ => none }
def ShowDatesWrongFalsely : Prop := showDatesRow.holds Tryz.pinned (OpenSpec.ofChange showDatesWrong)

/-- 'computuslaw19.ShowInstants': WHATEVER THE INPUT: true; the input reads as it did. -/
def showInstantsSpec : ChangeSpec := { name := "showInstants", fn := fun _ => fun
  | [d1, d2, d3] => { results := [.lit (.bool true)], args := [d1, d2, d3] }
  | _ => none }
def showInstantsRow : OpenClaim := { program := "ytbeckkfacjkakaagreat", sum := "487df82bf41f77dfaa76271723e77f37e5c8adda239a11160a3e77fec7358c0d", func := "computus/computuslaw19.ShowInstants", spec := "showInstants", inPlace := ["math/bits.Add64", "internal/abi.NoEscape", "internal/bytealg.MakeNoZero", "internal/bytealg.IndexByteString", "internal/bytealg.IndexString"], unfollowed := true, recurses := true, named := ["math/bits.divideError", "math/bits.overflowError", "internal/bytealg.MaxLen"], apart := false }
def ShowInstantsSaid : Prop := showInstantsRow.holds Tryz.pinned (OpenSpec.ofChange showInstantsSpec)

/-- ITS FALSE NEIGHBOUR: 'it returns false'. Refute it at one input. -/
def showInstantsWrong : ChangeSpec := { name := "showInstants", fn := fun _ => fun
  | [d1, d2, d3] => { results := [.lit (.bool false)], args := [d1, d2, d3] }
  | _ => none }
def ShowInstantsWrongFalsely : Prop := showInstantsRow.holds Tryz.pinned (OpenSpec.ofChange showInstantsWrong)

/-- 'computuslaw19.ShowValues': WHATEVER THE INPUT: true; the input reads as it did. -/
def showValuesSpec : ChangeSpec := { name := "showValues", fn := fun _ => fun
  | [d1, d2, d3] => { results := [.lit (.bool true)], args := [d1, d2, d3] }
  | _ => none }
def showValuesRow : OpenClaim := { program := "ytbeckkfacjkakaagreat", sum := "487df82bf41f77dfaa76271723e77f37e5c8adda239a11160a3e77fec7358c0d", func := "computus/computuslaw19.ShowValues", spec := "showValues", inPlace := ["math/bits.Add64", "internal/abi.NoEscape", "internal/bytealg.MakeNoZero", "internal/bytealg.IndexByteString", "internal/bytealg.IndexString"], unfollowed := true, recurses := true, named := ["math/bits.divideError", "math/bits.overflowError", "internal/bytealg.MaxLen"], apart := false }
def ShowValuesSaid : Prop := showValuesRow.holds Tryz.pinned (OpenSpec.ofChange showValuesSpec)

/-- ITS FALSE NEIGHBOUR: 'it returns false'. Refute it at one input. -/
def showValuesWrong : ChangeSpec := { name := "showValues", fn := fun _ => fun
  | [d1, d2, d3] => { results := [.lit (.bool false)], args := [d1, d2, d3] }
  | _ => none }
def ShowValuesWrongFalsely : Prop := showValuesRow.holds Tryz.pinned (OpenSpec.ofChange showValuesWrong)

/- THE SECOND FORM. 'bulk': how many values and letters a reading holds, each counted each time it is reached (what is shared counts as often as it is met; a slice's spare places count too). A statement '..UptoSaid' is the law's where the arguments, and the package variables that the reading takes, are together of bulk at most 1048576: NARROWER than '..Said'. Prove '..Said' where nothing that the law and all that it calls make is longer than what came in: it says more and counts as full. Else prove '..UptoSaid'. A law counts once. -/
mutual
def uptoBulk {H : Type} : DataW H → Nat
  | .lit (.string bytes) => bytes.length + 1
  | .lit _ => 1
  | .nil => 1
  | .ptr d => uptoBulk d + 1
  | .slice elems spare => uptoBulkAll elems + uptoBulkAll spare + 1
  | .agg parts => uptoBulkAll parts + 1
  | .iface _ d => uptoBulk d + 1
  | .map entries => uptoBulkEntries entries + 1
  | .held _ => 1
def uptoBulkAll {H : Type} : List (DataW H) → Nat
  | [] => 0
  | d :: r => uptoBulk d + uptoBulkAll r
def uptoBulkEntries {H : Type} : List (Lit × DataW H) → Nat
  | [] => 0
  | x :: r => uptoBulkEntry x + uptoBulkEntries r
def uptoBulkEntry {H : Type} : Lit × DataW H → Nat
  | (.string bytes, d) => bytes.length + uptoBulk d + 1
  | (_, d) => uptoBulk d + 1
 end
def uptoSmall : (H : Type) → List (DataW H) → Bool := fun _ ds => decide (uptoBulkAll ds ≤ 1048576)
def OpenSpec.upto (s : _root_.Go.ChangeSpec) : _root_.Go.OpenSpec := { _root_.Go.OpenSpec.ofChange s with cond := some uptoSmall }

/-- 'computuslaw19.ShowDates', WHERE WHAT IT READS IS OF BULK AT MOST 1048576: true; the input reads as it did. -/
def showDatesUptoRow : OpenClaim := { program := "ytbeckkfacjkakaagreat", sum := "487df82bf41f77dfaa76271723e77f37e5c8adda239a11160a3e77fec7358c0d", func := "computus/computuslaw19.ShowDates", spec := "showDates", inPlace := ["internal/abi.NoEscape", "internal/bytealg.MakeNoZero", "math/bits.Add64", "internal/bytealg.IndexByteString", "internal/bytealg.IndexString"], named := ["math/bits.divideError", "math/bits.overflowError", "internal/bytealg.MaxLen"], apart := false, narrowed := true }
def ShowDatesUptoSaid : Prop := showDatesUptoRow.holds Tryz.pinned (OpenSpec.upto showDatesSpec)

/-- 'computuslaw19.ShowInstants', WHERE WHAT IT READS IS OF BULK AT MOST 1048576: true; the input reads as it did. -/
def showInstantsUptoRow : OpenClaim := { program := "ytbeckkfacjkakaagreat", sum := "487df82bf41f77dfaa76271723e77f37e5c8adda239a11160a3e77fec7358c0d", func := "computus/computuslaw19.ShowInstants", spec := "showInstants", inPlace := ["math/bits.Add64", "internal/abi.NoEscape", "internal/bytealg.MakeNoZero", "internal/bytealg.IndexByteString", "internal/bytealg.IndexString"], unfollowed := true, recurses := true, named := ["math/bits.divideError", "math/bits.overflowError", "internal/bytealg.MaxLen"], apart := false, narrowed := true }
def ShowInstantsUptoSaid : Prop := showInstantsUptoRow.holds Tryz.pinned (OpenSpec.upto showInstantsSpec)

/-- 'computuslaw19.ShowValues', WHERE WHAT IT READS IS OF BULK AT MOST 1048576: true; the input reads as it did. -/
def showValuesUptoRow : OpenClaim := { program := "ytbeckkfacjkakaagreat", sum := "487df82bf41f77dfaa76271723e77f37e5c8adda239a11160a3e77fec7358c0d", func := "computus/computuslaw19.ShowValues", spec := "showValues", inPlace := ["math/bits.Add64", "internal/abi.NoEscape", "internal/bytealg.MakeNoZero", "internal/bytealg.IndexByteString", "internal/bytealg.IndexString"], unfollowed := true, recurses := true, named := ["math/bits.divideError", "math/bits.overflowError", "internal/bytealg.MaxLen"], apart := false, narrowed := true }
def ShowValuesUptoSaid : Prop := showValuesUptoRow.holds Tryz.pinned (OpenSpec.upto showValuesSpec)

end Rows
end Go.Proofs.YtbeckkfacjkakaaGreat
