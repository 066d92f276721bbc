/-
  No cell of these rows narrows 'for every input' (looked for: loops, veiled, ifaces, maps, wideKeys, modest, calm, conditions, laid).
  DERIVED. THE GIVEN ROWS OF THIS SEAT. 4 by the template 'for every input the law returns true; each argument reads behind the call as it read before'; 0 by the template 'total and deterministic' (their statements: YtofhccpagnkalaaGreatTotals.lean).
  GIVEN WITH THE SEED: the statements are not yours to turn. If you find one false, say at which input.
  Laid BY PROGRAM, IN A SANDBOX (cutbox-rows.mjs): the forced cells as the released guide's own fill.sh prints them over the translation 4d5f38378b8d7feb… (all of the seat's roots in one cut). By AI agents, Wed Nov 11 2026. No macro, syntax, notation, axiom, sorry.
-/
import Derived.Test.YtofhccpagnkalaaGreatChecked
import GoSem.Claim
import GoSem.ClaimJoined
import GoSem.ClaimMapViews
import Derived.JoinedTies
import Derived.KernelRfl
namespace Go.Proofs.YtofhccpagnkalaaGreat
/- THE CELL 'sum', in the pinned program and in every row, IS THE sha256 OF THE DUMP (.gsa) THAT YtofhccpagnkalaaGreatProg.lean LOADS. Nothing in Lean hashes anything: it is a label: what it is worth is what the hold of that sum in a sandbox is worth. -/
noncomputable def Tryz.pinned : Pinned := { name := "ytofhccpagnkalaagreat", sum := "4d5f38378b8d7feb32b661dfcbdbe495b1ff755d6f296376935b31322990e57e", checked := Tryz.checked }
namespace Rows
def none {H : Type} : Left H := { results := [], args := [] }

/-- 'curfewlaw27.SnapshotOpens': WHATEVER THE INPUT: true; the input reads as it did. -/
def snapshotOpensSpec : ChangeSpec := { name := "snapshotOpens", fn := fun _ => fun
  | [d1, d2, d3, d4] => { results := [.lit (.bool true)], args := [d1, d2, d3, d4] }
  | _ => none }
def snapshotOpensRow : OpenClaim := { program := "ytofhccpagnkalaagreat", sum := "4d5f38378b8d7feb32b661dfcbdbe495b1ff755d6f296376935b31322990e57e", func := "curfew/curfewlaw27.SnapshotOpens", spec := "snapshotOpens", inPlace := ["sync/atomic.LoadUint64", "sync/atomic.CompareAndSwapUint64"], unfollowed := true, recurses := true, apart := false }
def SnapshotOpensSaid : Prop := snapshotOpensRow.holds Tryz.pinned (OpenSpec.ofChange snapshotOpensSpec)

/-- ITS FALSE NEIGHBOUR: 'it returns false'. Refute it at one input. -/
def snapshotOpensWrong : ChangeSpec := { name := "snapshotOpens", fn := fun _ => fun
  | [d1, d2, d3, d4] => { results := [.lit (.bool false)], args := [d1, d2, d3, d4] }
  | _ => none }
def SnapshotOpensWrongFalsely : Prop := snapshotOpensRow.holds Tryz.pinned (OpenSpec.ofChange snapshotOpensWrong)

/-- 'curfewlaw26.VowOpens': WHATEVER THE INPUT: true; the input reads as it did. -/
def vowOpensSpec : ChangeSpec := { name := "vowOpens", fn := fun _ => fun
  | [d1, d2, d3, d4] => { results := [.lit (.bool true)], args := [d1, d2, d3, d4] }
  | _ => none }
def vowOpensRow : OpenClaim := { program := "ytofhccpagnkalaagreat", sum := "4d5f38378b8d7feb32b661dfcbdbe495b1ff755d6f296376935b31322990e57e", func := "curfew/curfewlaw26.VowOpens", spec := "vowOpens", inPlace := ["sync/atomic.LoadUint64", "sync/atomic.CompareAndSwapUint64"], unfollowed := true, recurses := true, apart := false }
def VowOpensSaid : Prop := vowOpensRow.holds Tryz.pinned (OpenSpec.ofChange vowOpensSpec)

/-- ITS FALSE NEIGHBOUR: 'it returns false'. Refute it at one input. -/
def vowOpensWrong : ChangeSpec := { name := "vowOpens", fn := fun _ => fun
  | [d1, d2, d3, d4] => { results := [.lit (.bool false)], args := [d1, d2, d3, d4] }
  | _ => none }
def VowOpensWrongFalsely : Prop := vowOpensRow.holds Tryz.pinned (OpenSpec.ofChange vowOpensWrong)

/-- 'curfewlaw26.VowPlays': WHATEVER THE INPUT: true; the input reads as it did. -/
def vowPlaysSpec : ChangeSpec := { name := "vowPlays", fn := fun _ => fun
  | [d1, d2] => { results := [.lit (.bool true)], args := [d1, d2] }
  | _ => none }
def vowPlaysRow : OpenClaim := { program := "ytofhccpagnkalaagreat", sum := "4d5f38378b8d7feb32b661dfcbdbe495b1ff755d6f296376935b31322990e57e", func := "curfew/curfewlaw26.VowPlays", spec := "vowPlays", inPlace := ["sync/atomic.LoadUint64", "sync/atomic.CompareAndSwapUint64"], unfollowed := true, recurses := true, apart := false }
def VowPlaysSaid : Prop := vowPlaysRow.holds Tryz.pinned (OpenSpec.ofChange vowPlaysSpec)

/-- ITS FALSE NEIGHBOUR: 'it returns false'. Refute it at one input. -/
def vowPlaysWrong : ChangeSpec := { name := "vowPlays", fn := fun _ => fun
  | [d1, d2] => { results := [.lit (.bool false)], args := [d1, d2] }
  | _ => none }
def VowPlaysWrongFalsely : Prop := vowPlaysRow.holds Tryz.pinned (OpenSpec.ofChange vowPlaysWrong)

/-- 'curfewlaw27.SnapshotPlays': WHATEVER THE INPUT: true; the input reads as it did. -/
def snapshotPlaysSpec : ChangeSpec := { name := "snapshotPlays", fn := fun _ => fun
  | [d1, d2] => { results := [.lit (.bool true)], args := [d1, d2] }
  | _ => none }
def snapshotPlaysRow : OpenClaim := { program := "ytofhccpagnkalaagreat", sum := "4d5f38378b8d7feb32b661dfcbdbe495b1ff755d6f296376935b31322990e57e", func := "curfew/curfewlaw27.SnapshotPlays", spec := "snapshotPlays", inPlace := ["sync/atomic.LoadUint64", "sync/atomic.CompareAndSwapUint64"], unfollowed := true, recurses := true, apart := false }
def SnapshotPlaysSaid : Prop := snapshotPlaysRow.holds Tryz.pinned (OpenSpec.ofChange snapshotPlaysSpec)

/-- ITS FALSE NEIGHBOUR: 'it returns false'. Refute it at one input. -/
def snapshotPlaysWrong : ChangeSpec := { name := "snapshotPlays", fn := fun _ => fun
  | [d1, d2] => { results := [.lit (.bool false)], args := [d1, d2] }
  | _ => none }
def SnapshotPlaysWrongFalsely : Prop := snapshotPlaysRow.holds Tryz.pinned (OpenSpec.ofChange snapshotPlaysWrong)

/- THE SECOND FORM. 'bulk': how many values and letters a reading holds, each counted each time it is reached (what is shared counts as often as it is met; a slice's spare places count too). A statement '..UptoSaid' is the law's where the arguments, and the package variables that the reading takes, are together of bulk at most 1048576: NARROWER than '..Said'. Prove '..Said' where nothing that the law and all that it calls make is longer than what came in: it says more and counts as full. Else prove '..UptoSaid'. A law counts once. -/
mutual
def uptoBulk {H : Type} : DataW H → Nat
  | .lit (.string bytes) => bytes.length + 1
  | .lit _ => 1
  | .nil => 1
  | .ptr d => uptoBulk d + 1
  | .slice elems spare => uptoBulkAll elems + uptoBulkAll spare + 1
  | .agg parts => uptoBulkAll parts + 1
  | .iface _ d => uptoBulk d + 1
  | .map entries => uptoBulkEntries entries + 1
  | .held _ => 1
def uptoBulkAll {H : Type} : List (DataW H) → Nat
  | [] => 0
  | d :: r => uptoBulk d + uptoBulkAll r
def uptoBulkEntries {H : Type} : List (Lit × DataW H) → Nat
  | [] => 0
  | x :: r => uptoBulkEntry x + uptoBulkEntries r
def uptoBulkEntry {H : Type} : Lit × DataW H → Nat
  | (.string bytes, d) => bytes.length + uptoBulk d + 1
  | (_, d) => uptoBulk d + 1
 end
def uptoSmall : (H : Type) → List (DataW H) → Bool := fun _ ds => decide (uptoBulkAll ds ≤ 1048576)
def OpenSpec.upto (s : _root_.Go.ChangeSpec) : _root_.Go.OpenSpec := { _root_.Go.OpenSpec.ofChange s with cond := some uptoSmall }

/-- 'curfewlaw27.SnapshotOpens', WHERE WHAT IT READS IS OF BULK AT MOST 1048576: true; the input reads as it did. -/
def snapshotOpensUptoRow : OpenClaim := { program := "ytofhccpagnkalaagreat", sum := "4d5f38378b8d7feb32b661dfcbdbe495b1ff755d6f296376935b31322990e57e", func := "curfew/curfewlaw27.SnapshotOpens", spec := "snapshotOpens", inPlace := ["sync/atomic.LoadUint64", "sync/atomic.CompareAndSwapUint64"], unfollowed := true, recurses := true, apart := false, narrowed := true }
def SnapshotOpensUptoSaid : Prop := snapshotOpensUptoRow.holds Tryz.pinned (OpenSpec.upto snapshotOpensSpec)

/-- 'curfewlaw26.VowOpens', WHERE WHAT IT READS IS OF BULK AT MOST 1048576: true; the input reads as it did. -/
def vowOpensUptoRow : OpenClaim := { program := "ytofhccpagnkalaagreat", sum := "4d5f38378b8d7feb32b661dfcbdbe495b1ff755d6f296376935b31322990e57e", func := "curfew/curfewlaw26.VowOpens", spec := "vowOpens", inPlace := ["sync/atomic.LoadUint64", "sync/atomic.CompareAndSwapUint64"], unfollowed := true, recurses := true, apart := false, narrowed := true }
def VowOpensUptoSaid : Prop := vowOpensUptoRow.holds Tryz.pinned (OpenSpec.upto vowOpensSpec)

/-- 'curfewlaw26.VowPlays', WHERE WHAT IT READS IS OF BULK AT MOST 1048576: true; the input reads as it did. -/
def vowPlaysUptoRow : OpenClaim := { program := "ytofhccpagnkalaagreat", sum := "4d5f38378b8d7feb32b661dfcbdbe495b1ff755d6f296376935b31322990e57e", func := "curfew/curfewlaw26.VowPlays", spec := "vowPlays", inPlace := ["sync/atomic.LoadUint64", "sync/atomic.CompareAndSwapUint64"], unfollowed := true, recurses := true, apart := false, narrowed := true }
def VowPlaysUptoSaid : Prop := vowPlaysUptoRow.holds Tryz.pinned (OpenSpec.upto vowPlaysSpec)

/-- 'curfewlaw27.SnapshotPlays', WHERE WHAT IT READS IS OF BULK AT MOST 1048576: true; the input reads as it did. -/
def snapshotPlaysUptoRow : OpenClaim := { program := "ytofhccpagnkalaagreat", sum := "4d5f38378b8d7feb32b661dfcbdbe495b1ff755d6f296376935b31322990e57e", func := "curfew/curfewlaw27.SnapshotPlays", spec := "snapshotPlays", inPlace := ["sync/atomic.LoadUint64", "sync/atomic.CompareAndSwapUint64"], unfollowed := true, recurses := true, apart := false, narrowed := true }
def SnapshotPlaysUptoSaid : Prop := snapshotPlaysUptoRow.holds Tryz.pinned (OpenSpec.upto snapshotPlaysSpec)

end Rows
end Go.Proofs.YtofhccpagnkalaaGreat
