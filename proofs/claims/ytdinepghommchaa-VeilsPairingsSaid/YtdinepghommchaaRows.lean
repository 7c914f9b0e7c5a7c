/-
  No cell of these rows narrows 'for every input' (looked for: loops, veiled, ifaces, maps, wideKeys, modest, calm, conditions, laid).
  DERIVED. THE GIVEN ROWS OF THIS SEAT. 9 by the template 'for every input the law returns true; each argument reads behind the call as it read before'; 0 by the template 'total and deterministic' (their statements: YtdinepghommchaaTotals.lean).
  GIVEN WITH THE SEED: the statements are not yours to turn. If you find one false, say at which input.
  Laid BY PROGRAM, IN A SANDBOX (cutbox-rows.mjs): the forced cells as the released guide's own fill.sh prints them over the translation d5917df61b63ca2d… (all of the seat's roots in one cut). By AI agents, Wed Nov 11 2026. No macro, syntax, notation, axiom, sorry.
-/
import Derived.Test.YtdinepghommchaaChecked
import GoSem.Claim
import GoSem.ClaimJoined
import GoSem.ClaimMapViews
import Derived.JoinedTies
import Derived.KernelRfl
namespace Go.Proofs.Ytdinepghommchaa
/- THE CELL 'sum', in the pinned program and in every row, IS THE sha256 OF THE DUMP (.gsa) THAT YtdinepghommchaaProg.lean LOADS. Nothing in Lean hashes anything: it is a label: what it is worth is what the hold of that sum in a sandbox is worth. -/
noncomputable def Try.pinned : Pinned := { name := "ytdinepghommchaa", sum := "d5917df61b63ca2d941a59d014879fe04349d38dc3dbc75be7a8629ee8659303", checked := Try.checked }
namespace Rows
def none {H : Type} : Left H := { results := [], args := [] }

/-- 'clochelaw09.VeilsAll': WHATEVER THE INPUT: true; the input reads as it did. -/
def veilsAllSpec : ChangeSpec := { name := "veilsAll", fn := fun _ => fun
  | [d] => { results := [.lit (.bool true)], args := [d] }
  | _ => none }
def veilsAllRow : OpenClaim := { program := "ytdinepghommchaa", sum := "d5917df61b63ca2d941a59d014879fe04349d38dc3dbc75be7a8629ee8659303", func := "cloche/clochelaw09.VeilsAll", spec := "veilsAll", unfollowed := true, recurses := true, apart := false }
def VeilsAllSaid : Prop := veilsAllRow.holds Try.pinned (OpenSpec.ofChange veilsAllSpec)

/-- ITS FALSE NEIGHBOUR: 'it returns false'. Refute it at one input. -/
def veilsAllWrong : ChangeSpec := { name := "veilsAll", fn := fun _ => fun
  | [d] => { results := [.lit (.bool false)], args := [d] }
  | _ => none }
def VeilsAllWrongFalsely : Prop := veilsAllRow.holds Try.pinned (OpenSpec.ofChange veilsAllWrong)

/-- 'clochelaw09.VeilsSummed': WHATEVER THE INPUT: true; the input reads as it did. -/
def veilsSummedSpec : ChangeSpec := { name := "veilsSummed", fn := fun _ => fun
  | [d] => { results := [.lit (.bool true)], args := [d] }
  | _ => none }
def veilsSummedRow : OpenClaim := { program := "ytdinepghommchaa", sum := "d5917df61b63ca2d941a59d014879fe04349d38dc3dbc75be7a8629ee8659303", func := "cloche/clochelaw09.VeilsSummed", spec := "veilsSummed", unfollowed := true, recurses := true, apart := false }
def VeilsSummedSaid : Prop := veilsSummedRow.holds Try.pinned (OpenSpec.ofChange veilsSummedSpec)

/-- ITS FALSE NEIGHBOUR: 'it returns false'. Refute it at one input. -/
def veilsSummedWrong : ChangeSpec := { name := "veilsSummed", fn := fun _ => fun
  | [d] => { results := [.lit (.bool false)], args := [d] }
  | _ => none }
def VeilsSummedWrongFalsely : Prop := veilsSummedRow.holds Try.pinned (OpenSpec.ofChange veilsSummedWrong)

/-- 'clochelaw09.VeilsNumbers': WHATEVER THE INPUT: true; the input reads as it did. -/
def veilsNumbersSpec : ChangeSpec := { name := "veilsNumbers", fn := fun _ => fun
  | [d] => { results := [.lit (.bool true)], args := [d] }
  | _ => none }
def veilsNumbersRow : OpenClaim := { program := "ytdinepghommchaa", sum := "d5917df61b63ca2d941a59d014879fe04349d38dc3dbc75be7a8629ee8659303", func := "cloche/clochelaw09.VeilsNumbers", spec := "veilsNumbers", unfollowed := true, recurses := true, apart := false }
def VeilsNumbersSaid : Prop := veilsNumbersRow.holds Try.pinned (OpenSpec.ofChange veilsNumbersSpec)

/-- ITS FALSE NEIGHBOUR: 'it returns false'. Refute it at one input. -/
def veilsNumbersWrong : ChangeSpec := { name := "veilsNumbers", fn := fun _ => fun
  | [d] => { results := [.lit (.bool false)], args := [d] }
  | _ => none }
def VeilsNumbersWrongFalsely : Prop := veilsNumbersRow.holds Try.pinned (OpenSpec.ofChange veilsNumbersWrong)

/-- 'clochelaw09.VeilsPairings': WHATEVER THE INPUT: true; the input reads as it did. -/
def veilsPairingsSpec : ChangeSpec := { name := "veilsPairings", fn := fun _ => fun
  | [d1, d2] => { results := [.lit (.bool true)], args := [d1, d2] }
  | _ => none }
def veilsPairingsRow : OpenClaim := { program := "ytdinepghommchaa", sum := "d5917df61b63ca2d941a59d014879fe04349d38dc3dbc75be7a8629ee8659303", func := "cloche/clochelaw09.VeilsPairings", spec := "veilsPairings", unfollowed := true, recurses := true, apart := false }
def VeilsPairingsSaid : Prop := veilsPairingsRow.holds Try.pinned (OpenSpec.ofChange veilsPairingsSpec)

/-- ITS FALSE NEIGHBOUR: 'it returns false'. Refute it at one input. -/
def veilsPairingsWrong : ChangeSpec := { name := "veilsPairings", fn := fun _ => fun
  | [d1, d2] => { results := [.lit (.bool false)], args := [d1, d2] }
  | _ => none }
def VeilsPairingsWrongFalsely : Prop := veilsPairingsRow.holds Try.pinned (OpenSpec.ofChange veilsPairingsWrong)

/-- 'clochelaw09.VeilsApart': WHATEVER THE INPUT: true; the input reads as it did. -/
def veilsApartSpec : ChangeSpec := { name := "veilsApart", fn := fun _ => fun
  | [d1, d2] => { results := [.lit (.bool true)], args := [d1, d2] }
  | _ => none }
def veilsApartRow : OpenClaim := { program := "ytdinepghommchaa", sum := "d5917df61b63ca2d941a59d014879fe04349d38dc3dbc75be7a8629ee8659303", func := "cloche/clochelaw09.VeilsApart", spec := "veilsApart", unfollowed := true, recurses := true, apart := false }
def VeilsApartSaid : Prop := veilsApartRow.holds Try.pinned (OpenSpec.ofChange veilsApartSpec)

/-- ITS FALSE NEIGHBOUR: 'it returns false'. Refute it at one input. -/
def veilsApartWrong : ChangeSpec := { name := "veilsApart", fn := fun _ => fun
  | [d1, d2] => { results := [.lit (.bool false)], args := [d1, d2] }
  | _ => none }
def VeilsApartWrongFalsely : Prop := veilsApartRow.holds Try.pinned (OpenSpec.ofChange veilsApartWrong)

/-- 'clochelaw09.VeilsSteep': WHATEVER THE INPUT: true; the input reads as it did. -/
def veilsSteepSpec : ChangeSpec := { name := "veilsSteep", fn := fun _ => fun
  | [d1, d2] => { results := [.lit (.bool true)], args := [d1, d2] }
  | _ => none }
def veilsSteepRow : OpenClaim := { program := "ytdinepghommchaa", sum := "d5917df61b63ca2d941a59d014879fe04349d38dc3dbc75be7a8629ee8659303", func := "cloche/clochelaw09.VeilsSteep", spec := "veilsSteep", unfollowed := true, recurses := true, apart := false }
def VeilsSteepSaid : Prop := veilsSteepRow.holds Try.pinned (OpenSpec.ofChange veilsSteepSpec)

/-- ITS FALSE NEIGHBOUR: 'it returns false'. Refute it at one input. -/
def veilsSteepWrong : ChangeSpec := { name := "veilsSteep", fn := fun _ => fun
  | [d1, d2] => { results := [.lit (.bool false)], args := [d1, d2] }
  | _ => none }
def VeilsSteepWrongFalsely : Prop := veilsSteepRow.holds Try.pinned (OpenSpec.ofChange veilsSteepWrong)

/-- 'clochelaw09.VeilsTriangles': WHATEVER THE INPUT: true; the input reads as it did. -/
def veilsTrianglesSpec : ChangeSpec := { name := "veilsTriangles", fn := fun _ => fun
  | [d1, d2] => { results := [.lit (.bool true)], args := [d1, d2] }
  | _ => none }
def veilsTrianglesRow : OpenClaim := { program := "ytdinepghommchaa", sum := "d5917df61b63ca2d941a59d014879fe04349d38dc3dbc75be7a8629ee8659303", func := "cloche/clochelaw09.VeilsTriangles", spec := "veilsTriangles", unfollowed := true, recurses := true, apart := false }
def VeilsTrianglesSaid : Prop := veilsTrianglesRow.holds Try.pinned (OpenSpec.ofChange veilsTrianglesSpec)

/-- ITS FALSE NEIGHBOUR: 'it returns false'. Refute it at one input. -/
def veilsTrianglesWrong : ChangeSpec := { name := "veilsTriangles", fn := fun _ => fun
  | [d1, d2] => { results := [.lit (.bool false)], args := [d1, d2] }
  | _ => none }
def VeilsTrianglesWrongFalsely : Prop := veilsTrianglesRow.holds Try.pinned (OpenSpec.ofChange veilsTrianglesWrong)

/-- 'clochelaw09.VeilsWieland': WHATEVER THE INPUT: true; the input reads as it did. -/
def veilsWielandSpec : ChangeSpec := { name := "veilsWieland", fn := fun _ => fun
  | [d1, d2] => { results := [.lit (.bool true)], args := [d1, d2] }
  | _ => none }
def veilsWielandRow : OpenClaim := { program := "ytdinepghommchaa", sum := "d5917df61b63ca2d941a59d014879fe04349d38dc3dbc75be7a8629ee8659303", func := "cloche/clochelaw09.VeilsWieland", spec := "veilsWieland", unfollowed := true, recurses := true, apart := false }
def VeilsWielandSaid : Prop := veilsWielandRow.holds Try.pinned (OpenSpec.ofChange veilsWielandSpec)

/-- ITS FALSE NEIGHBOUR: 'it returns false'. Refute it at one input. -/
def veilsWielandWrong : ChangeSpec := { name := "veilsWieland", fn := fun _ => fun
  | [d1, d2] => { results := [.lit (.bool false)], args := [d1, d2] }
  | _ => none }
def VeilsWielandWrongFalsely : Prop := veilsWielandRow.holds Try.pinned (OpenSpec.ofChange veilsWielandWrong)

/-- 'clochelaw09.VeilsOf': WHATEVER THE INPUT: true; the input reads as it did. -/
def veilsOfSpec : ChangeSpec := { name := "veilsOf", fn := fun _ => fun
  | [d1, d2] => { results := [.lit (.bool true)], args := [d1, d2] }
  | _ => none }
def veilsOfRow : OpenClaim := { program := "ytdinepghommchaa", sum := "d5917df61b63ca2d941a59d014879fe04349d38dc3dbc75be7a8629ee8659303", func := "cloche/clochelaw09.VeilsOf", spec := "veilsOf", unfollowed := true, recurses := true, apart := false }
def VeilsOfSaid : Prop := veilsOfRow.holds Try.pinned (OpenSpec.ofChange veilsOfSpec)

/-- ITS FALSE NEIGHBOUR: 'it returns false'. Refute it at one input. -/
def veilsOfWrong : ChangeSpec := { name := "veilsOf", fn := fun _ => fun
  | [d1, d2] => { results := [.lit (.bool false)], args := [d1, d2] }
  | _ => none }
def VeilsOfWrongFalsely : Prop := veilsOfRow.holds Try.pinned (OpenSpec.ofChange veilsOfWrong)

/- THE SECOND FORM. 'bulk': how many values and letters a reading holds, each counted each time it is reached (what is shared counts as often as it is met; a slice's spare places count too). A statement '..UptoSaid' is the law's where the arguments, and the package variables that the reading takes, are together of bulk at most 1048576: NARROWER than '..Said'. Prove '..Said' where nothing that the law and all that it calls make is longer than what came in: it says more and counts as full. Else prove '..UptoSaid'. A law counts once. -/
mutual
def uptoBulk {H : Type} : DataW H → Nat
  | .lit (.string bytes) => bytes.length + 1
  | .lit _ => 1
  | .nil => 1
  | .ptr d => uptoBulk d + 1
  | .slice elems spare => uptoBulkAll elems + uptoBulkAll spare + 1
  | .agg parts => uptoBulkAll parts + 1
  | .iface _ d => uptoBulk d + 1
  | .map entries => uptoBulkEntries entries + 1
  | .held _ => 1
def uptoBulkAll {H : Type} : List (DataW H) → Nat
  | [] => 0
  | d :: r => uptoBulk d + uptoBulkAll r
def uptoBulkEntries {H : Type} : List (Lit × DataW H) → Nat
  | [] => 0
  | x :: r => uptoBulkEntry x + uptoBulkEntries r
def uptoBulkEntry {H : Type} : Lit × DataW H → Nat
  | (.string bytes, d) => bytes.length + uptoBulk d + 1
  | (_, d) => uptoBulk d + 1
 end
def uptoSmall : (H : Type) → List (DataW H) → Bool := fun _ ds => decide (uptoBulkAll ds ≤ 1048576)
def OpenSpec.upto (s : _root_.Go.ChangeSpec) : _root_.Go.OpenSpec := { _root_.Go.OpenSpec.ofChange s with cond := some uptoSmall }

/-- 'clochelaw09.VeilsAll', WHERE WHAT IT READS IS OF BULK AT MOST 1048576: true; the input reads as it did. -/
def veilsAllUptoRow : OpenClaim := { program := "ytdinepghommchaa", sum := "d5917df61b63ca2d941a59d014879fe04349d38dc3dbc75be7a8629ee8659303", func := "cloche/clochelaw09.VeilsAll", spec := "veilsAll", unfollowed := true, recurses := true, apart := false, narrowed := true }
def VeilsAllUptoSaid : Prop := veilsAllUptoRow.holds Try.pinned (OpenSpec.upto veilsAllSpec)

/-- 'clochelaw09.VeilsSummed', WHERE WHAT IT READS IS OF BULK AT MOST 1048576: true; the input reads as it did. -/
def veilsSummedUptoRow : OpenClaim := { program := "ytdinepghommchaa", sum := "d5917df61b63ca2d941a59d014879fe04349d38dc3dbc75be7a8629ee8659303", func := "cloche/clochelaw09.VeilsSummed", spec := "veilsSummed", unfollowed := true, recurses := true, apart := false, narrowed := true }
def VeilsSummedUptoSaid : Prop := veilsSummedUptoRow.holds Try.pinned (OpenSpec.upto veilsSummedSpec)

/-- 'clochelaw09.VeilsNumbers', WHERE WHAT IT READS IS OF BULK AT MOST 1048576: true; the input reads as it did. -/
def veilsNumbersUptoRow : OpenClaim := { program := "ytdinepghommchaa", sum := "d5917df61b63ca2d941a59d014879fe04349d38dc3dbc75be7a8629ee8659303", func := "cloche/clochelaw09.VeilsNumbers", spec := "veilsNumbers", unfollowed := true, recurses := true, apart := false, narrowed := true }
def VeilsNumbersUptoSaid : Prop := veilsNumbersUptoRow.holds Try.pinned (OpenSpec.upto veilsNumbersSpec)

/-- 'clochelaw09.VeilsPairings', WHERE WHAT IT READS IS OF BULK AT MOST 1048576: true; the input reads as it did. -/
def veilsPairingsUptoRow : OpenClaim := { program := "ytdinepghommchaa", sum := "d5917df61b63ca2d941a59d014879fe04349d38dc3dbc75be7a8629ee8659303", func := "cloche/clochelaw09.VeilsPairings", spec := "veilsPairings", unfollowed := true, recurses := true, apart := false, narrowed := true }
def VeilsPairingsUptoSaid : Prop := veilsPairingsUptoRow.holds Try.pinned (OpenSpec.upto veilsPairingsSpec)

/-- 'clochelaw09.VeilsApart', WHERE WHAT IT READS IS OF BULK AT MOST 1048576: true; the input reads as it did. -/
def veilsApartUptoRow : OpenClaim := { program := "ytdinepghommchaa", sum := "d5917df61b63ca2d941a59d014879fe04349d38dc3dbc75be7a8629ee8659303", func := "cloche/clochelaw09.VeilsApart", spec := "veilsApart", unfollowed := true, recurses := true, apart := false, narrowed := true }
def VeilsApartUptoSaid : Prop := veilsApartUptoRow.holds Try.pinned (OpenSpec.upto veilsApartSpec)

/-- 'clochelaw09.VeilsSteep', WHERE WHAT IT READS IS OF BULK AT MOST 1048576: true; the input reads as it did. -/
def veilsSteepUptoRow : OpenClaim := { program := "ytdinepghommchaa", sum := "d5917df61b63ca2d941a59d014879fe04349d38dc3dbc75be7a8629ee8659303", func := "cloche/clochelaw09.VeilsSteep", spec := "veilsSteep", unfollowed := true, recurses := true, apart := false, narrowed := true }
def VeilsSteepUptoSaid : Prop := veilsSteepUptoRow.holds Try.pinned (OpenSpec.upto veilsSteepSpec)

/-- 'clochelaw09.VeilsTriangles', WHERE WHAT IT READS IS OF BULK AT MOST 1048576: true; the input reads as it did. -/
def veilsTrianglesUptoRow : OpenClaim := { program := "ytdinepghommchaa", sum := "d5917df61b63ca2d941a59d014879fe04349d38dc3dbc75be7a8629ee8659303", func := "cloche/clochelaw09.VeilsTriangles", spec := "veilsTriangles", unfollowed := true, recurses := true, apart := false, narrowed := true }
def VeilsTrianglesUptoSaid : Prop := veilsTrianglesUptoRow.holds Try.pinned (OpenSpec.upto veilsTrianglesSpec)

/-- 'clochelaw09.VeilsWieland', WHERE WHAT IT READS IS OF BULK AT MOST 1048576: true; the input reads as it did. -/
def veilsWielandUptoRow : OpenClaim := { program := "ytdinepghommchaa", sum := "d5917df61b63ca2d941a59d014879fe04349d38dc3dbc75be7a8629ee8659303", func := "cloche/clochelaw09.VeilsWieland", spec := "veilsWieland", unfollowed := true, recurses := true, apart := false, narrowed := true }
def VeilsWielandUptoSaid : Prop := veilsWielandUptoRow.holds Try.pinned (OpenSpec.upto veilsWielandSpec)

/-- 'clochelaw09.VeilsOf', WHERE WHAT IT READS IS OF BULK AT MOST 1048576: true; the input reads as it did. -/
def veilsOfUptoRow : OpenClaim := { program := "ytdinepghommchaa", sum := "d5917df61b63ca2d941a59d014879fe04349d38dc3dbc75be7a8629ee8659303", func := "cloche/clochelaw09.VeilsOf", spec := "veilsOf", unfollowed := true, recurses := true, apart := false, narrowed := true }
def VeilsOfUptoSaid : Prop := veilsOfUptoRow.holds Try.pinned (OpenSpec.upto veilsOfSpec)

end Rows
end Go.Proofs.Ytdinepghommchaa
