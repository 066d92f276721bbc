/-
  No cell of these rows narrows 'for every input' (looked for: loops, veiled, ifaces, maps, wideKeys, modest, calm, conditions, laid).
  DERIVED. THE GIVEN ROWS OF THIS SEAT. 8 by the template 'for every input the law returns true; each argument reads behind the call as it read before'; 0 by the template 'total and deterministic' (their statements: YtjdglpcnkiioeaaGreatTotals.lean).
  GIVEN WITH THE SEED: the statements are not yours to turn. If you find one false, say at which input.
  Laid BY PROGRAM, IN A SANDBOX (cutbox-rows.mjs): the forced cells as the released guide's own fill.sh prints them over the translation d126dc117f66627f… (all of the seat's roots in one cut). By AI agents, Wed Nov 11 2026. No macro, syntax, notation, axiom, sorry.
-/
import Derived.Test.YtjdglpcnkiioeaaGreatChecked
import GoSem.Claim
import GoSem.ClaimJoined
import GoSem.ClaimMapViews
import Derived.JoinedTies
import Derived.KernelRfl
namespace Go.Proofs.YtjdglpcnkiioeaaGreat
/- THE CELL 'sum', in the pinned program and in every row, IS THE sha256 OF THE DUMP (.gsa) THAT YtjdglpcnkiioeaaGreatProg.lean LOADS. Nothing in Lean hashes anything: it is a label: what it is worth is what the hold of that sum in a sandbox is worth. -/
noncomputable def Tryz.pinned : Pinned := { name := "ytjdglpcnkiioeaagreat", sum := "d126dc117f66627fea879189c35d22a79b5192faffdbe0a717d654ed2fe3068e", checked := Tryz.checked }
namespace Rows
def none {H : Type} : Left H := { results := [], args := [] }

/-- 'curfewlaw25.WalNobody': WHATEVER THE INPUT: true; the input reads as it did. -/
def walNobodySpec : ChangeSpec := { name := "walNobody", fn := fun _ => fun
  | [d1, d2] => { results := [.lit (.bool true)], args := [d1, d2] }
  | _ => none }
def walNobodyRow : OpenClaim := { program := "ytjdglpcnkiioeaagreat", sum := "d126dc117f66627fea879189c35d22a79b5192faffdbe0a717d654ed2fe3068e", func := "curfew/curfewlaw25.WalNobody", spec := "walNobody", inPlace := ["internal/bytealg.IndexByteString", "sync/atomic.LoadUint64", "sync/atomic.CompareAndSwapUint64"], unfollowed := true, recurses := true, apart := false }
def WalNobodySaid : Prop := walNobodyRow.holds Tryz.pinned (OpenSpec.ofChange walNobodySpec)

/-- ITS FALSE NEIGHBOUR: 'it returns false'. Refute it at one input. -/
def walNobodyWrong : ChangeSpec := { name := "walNobody", fn := fun _ => fun
  | [d1, d2] => { results := [.lit (.bool false)], args := [d1, d2] }
  | _ => none }
def WalNobodyWrongFalsely : Prop := walNobodyRow.holds Tryz.pinned (OpenSpec.ofChange walNobodyWrong)

/-- 'curfewlaw25.WalFiles': WHATEVER THE INPUT: true; the input reads as it did. -/
def walFilesSpec : ChangeSpec := { name := "walFiles", fn := fun _ => fun
  | [d] => { results := [.lit (.bool true)], args := [d] }
  | _ => none }
def walFilesRow : OpenClaim := { program := "ytjdglpcnkiioeaagreat", sum := "d126dc117f66627fea879189c35d22a79b5192faffdbe0a717d654ed2fe3068e", func := "curfew/curfewlaw25.WalFiles", spec := "walFiles", inPlace := ["internal/bytealg.IndexByteString", "sync/atomic.LoadUint64", "sync/atomic.CompareAndSwapUint64"], unfollowed := true, recurses := true, apart := false }
def WalFilesSaid : Prop := walFilesRow.holds Tryz.pinned (OpenSpec.ofChange walFilesSpec)

/-- ITS FALSE NEIGHBOUR: 'it returns false'. Refute it at one input. -/
def walFilesWrong : ChangeSpec := { name := "walFiles", fn := fun _ => fun
  | [d] => { results := [.lit (.bool false)], args := [d] }
  | _ => none }
def WalFilesWrongFalsely : Prop := walFilesRow.holds Tryz.pinned (OpenSpec.ofChange walFilesWrong)

/-- 'curfewlaw25.WalKeeps': WHATEVER THE INPUT: true; the input reads as it did. -/
def walKeepsSpec : ChangeSpec := { name := "walKeeps", fn := fun _ => fun
  | [d1, d2, d3] => { results := [.lit (.bool true)], args := [d1, d2, d3] }
  | _ => none }
def walKeepsRow : OpenClaim := { program := "ytjdglpcnkiioeaagreat", sum := "d126dc117f66627fea879189c35d22a79b5192faffdbe0a717d654ed2fe3068e", func := "curfew/curfewlaw25.WalKeeps", spec := "walKeeps", inPlace := ["internal/bytealg.IndexByteString", "sync/atomic.LoadUint64", "sync/atomic.CompareAndSwapUint64"], unfollowed := true, recurses := true, apart := false }
def WalKeepsSaid : Prop := walKeepsRow.holds Tryz.pinned (OpenSpec.ofChange walKeepsSpec)

/-- ITS FALSE NEIGHBOUR: 'it returns false'. Refute it at one input. -/
def walKeepsWrong : ChangeSpec := { name := "walKeeps", fn := fun _ => fun
  | [d1, d2, d3] => { results := [.lit (.bool false)], args := [d1, d2, d3] }
  | _ => none }
def WalKeepsWrongFalsely : Prop := walKeepsRow.holds Tryz.pinned (OpenSpec.ofChange walKeepsWrong)

/-- 'curfewlaw28.VaultOpens': WHATEVER THE INPUT: true; the input reads as it did. -/
def vaultOpensSpec : ChangeSpec := { name := "vaultOpens", fn := fun _ => fun
  | [d1, d2, d3] => { results := [.lit (.bool true)], args := [d1, d2, d3] }
  | _ => none }
def vaultOpensRow : OpenClaim := { program := "ytjdglpcnkiioeaagreat", sum := "d126dc117f66627fea879189c35d22a79b5192faffdbe0a717d654ed2fe3068e", func := "curfew/curfewlaw28.VaultOpens", spec := "vaultOpens", inPlace := ["sync/atomic.LoadUint64", "sync/atomic.CompareAndSwapUint64", "internal/bytealg.IndexByteString"], unfollowed := true, recurses := true, apart := false }
def VaultOpensSaid : Prop := vaultOpensRow.holds Tryz.pinned (OpenSpec.ofChange vaultOpensSpec)

/-- ITS FALSE NEIGHBOUR: 'it returns false'. Refute it at one input. -/
def vaultOpensWrong : ChangeSpec := { name := "vaultOpens", fn := fun _ => fun
  | [d1, d2, d3] => { results := [.lit (.bool false)], args := [d1, d2, d3] }
  | _ => none }
def VaultOpensWrongFalsely : Prop := vaultOpensRow.holds Tryz.pinned (OpenSpec.ofChange vaultOpensWrong)

/-- 'curfewlaw28.VaultBroken': WHATEVER THE INPUT: true; the input reads as it did. -/
def vaultBrokenSpec : ChangeSpec := { name := "vaultBroken", fn := fun _ => fun
  | [d] => { results := [.lit (.bool true)], args := [d] }
  | _ => none }
def vaultBrokenRow : OpenClaim := { program := "ytjdglpcnkiioeaagreat", sum := "d126dc117f66627fea879189c35d22a79b5192faffdbe0a717d654ed2fe3068e", func := "curfew/curfewlaw28.VaultBroken", spec := "vaultBroken", inPlace := ["sync/atomic.LoadUint64", "sync/atomic.CompareAndSwapUint64", "internal/bytealg.IndexByteString"], unfollowed := true, recurses := true, apart := false }
def VaultBrokenSaid : Prop := vaultBrokenRow.holds Tryz.pinned (OpenSpec.ofChange vaultBrokenSpec)

/-- ITS FALSE NEIGHBOUR: 'it returns false'. Refute it at one input. -/
def vaultBrokenWrong : ChangeSpec := { name := "vaultBroken", fn := fun _ => fun
  | [d] => { results := [.lit (.bool false)], args := [d] }
  | _ => none }
def VaultBrokenWrongFalsely : Prop := vaultBrokenRow.holds Tryz.pinned (OpenSpec.ofChange vaultBrokenWrong)

/-- 'curfewlaw28.VaultWhole': WHATEVER THE INPUT: true; the input reads as it did. -/
def vaultWholeSpec : ChangeSpec := { name := "vaultWhole", fn := fun _ => fun
  | [d1, d2] => { results := [.lit (.bool true)], args := [d1, d2] }
  | _ => none }
def vaultWholeRow : OpenClaim := { program := "ytjdglpcnkiioeaagreat", sum := "d126dc117f66627fea879189c35d22a79b5192faffdbe0a717d654ed2fe3068e", func := "curfew/curfewlaw28.VaultWhole", spec := "vaultWhole", inPlace := ["sync/atomic.LoadUint64", "sync/atomic.CompareAndSwapUint64", "internal/bytealg.IndexByteString"], unfollowed := true, recurses := true, apart := false }
def VaultWholeSaid : Prop := vaultWholeRow.holds Tryz.pinned (OpenSpec.ofChange vaultWholeSpec)

/-- ITS FALSE NEIGHBOUR: 'it returns false'. Refute it at one input. -/
def vaultWholeWrong : ChangeSpec := { name := "vaultWhole", fn := fun _ => fun
  | [d1, d2] => { results := [.lit (.bool false)], args := [d1, d2] }
  | _ => none }
def VaultWholeWrongFalsely : Prop := vaultWholeRow.holds Tryz.pinned (OpenSpec.ofChange vaultWholeWrong)

/-- 'curfewlaw28.VaultKeeps': WHATEVER THE INPUT: true; the input reads as it did. -/
def vaultKeepsSpec : ChangeSpec := { name := "vaultKeeps", fn := fun _ => fun
  | [d1, d2, d3] => { results := [.lit (.bool true)], args := [d1, d2, d3] }
  | _ => none }
def vaultKeepsRow : OpenClaim := { program := "ytjdglpcnkiioeaagreat", sum := "d126dc117f66627fea879189c35d22a79b5192faffdbe0a717d654ed2fe3068e", func := "curfew/curfewlaw28.VaultKeeps", spec := "vaultKeeps", inPlace := ["sync/atomic.LoadUint64", "sync/atomic.CompareAndSwapUint64", "internal/bytealg.IndexByteString"], unfollowed := true, recurses := true, apart := false }
def VaultKeepsSaid : Prop := vaultKeepsRow.holds Tryz.pinned (OpenSpec.ofChange vaultKeepsSpec)

/-- ITS FALSE NEIGHBOUR: 'it returns false'. Refute it at one input. -/
def vaultKeepsWrong : ChangeSpec := { name := "vaultKeeps", fn := fun _ => fun
  | [d1, d2, d3] => { results := [.lit (.bool false)], args := [d1, d2, d3] }
  | _ => none }
def VaultKeepsWrongFalsely : Prop := vaultKeepsRow.holds Tryz.pinned (OpenSpec.ofChange vaultKeepsWrong)

/-- 'curfewlaw28.VaultPlays': WHATEVER THE INPUT: true; the input reads as it did. -/
def vaultPlaysSpec : ChangeSpec := { name := "vaultPlays", fn := fun _ => fun
  | [d1, d2, d3, d4] => { results := [.lit (.bool true)], args := [d1, d2, d3, d4] }
  | _ => none }
def vaultPlaysRow : OpenClaim := { program := "ytjdglpcnkiioeaagreat", sum := "d126dc117f66627fea879189c35d22a79b5192faffdbe0a717d654ed2fe3068e", func := "curfew/curfewlaw28.VaultPlays", spec := "vaultPlays", inPlace := ["sync/atomic.LoadUint64", "sync/atomic.CompareAndSwapUint64", "internal/bytealg.IndexByteString"], unfollowed := true, recurses := true, apart := false }
def VaultPlaysSaid : Prop := vaultPlaysRow.holds Tryz.pinned (OpenSpec.ofChange vaultPlaysSpec)

/-- ITS FALSE NEIGHBOUR: 'it returns false'. Refute it at one input. -/
def vaultPlaysWrong : ChangeSpec := { name := "vaultPlays", fn := fun _ => fun
  | [d1, d2, d3, d4] => { results := [.lit (.bool false)], args := [d1, d2, d3, d4] }
  | _ => none }
def VaultPlaysWrongFalsely : Prop := vaultPlaysRow.holds Tryz.pinned (OpenSpec.ofChange vaultPlaysWrong)

/- THE SECOND FORM. 'bulk': how many values and letters a reading holds, each counted each time it is reached (what is shared counts as often as it is met; a slice's spare places count too). A statement '..UptoSaid' is the law's where the arguments, and the package variables that the reading takes, are together of bulk at most 1048576: NARROWER than '..Said'. Prove '..Said' where nothing that the law and all that it calls make is longer than what came in: it says more and counts as full. Else prove '..UptoSaid'. A law counts once. -/
mutual
def uptoBulk {H : Type} : DataW H → Nat
  | .lit (.string bytes) => bytes.length + 1
  | .lit _ => 1
  | .nil => 1
  | .ptr d => uptoBulk d + 1
  | .slice elems spare => uptoBulkAll elems + uptoBulkAll spare + 1
  | .agg parts => uptoBulkAll parts + 1
  | .iface _ d => uptoBulk d + 1
  | .map entries => uptoBulkEntries entries + 1
  | .held _ => 1
def uptoBulkAll {H : Type} : List (DataW H) → Nat
  | [] => 0
  | d :: r => uptoBulk d + uptoBulkAll r
def uptoBulkEntries {H : Type} : List (Lit × DataW H) → Nat
  | [] => 0
  | x :: r => uptoBulkEntry x + uptoBulkEntries r
def uptoBulkEntry {H : Type} : Lit × DataW H → Nat
  | (.string bytes, d) => bytes.length + uptoBulk d + 1
  | (_, d) => uptoBulk d + 1
 end
def uptoSmall : (H : Type) → List (DataW H) → Bool := fun _ ds => decide (uptoBulkAll ds ≤ 1048576)
def OpenSpec.upto (s : _root_.Go.ChangeSpec) : _root_.Go.OpenSpec := { _root_.Go.OpenSpec.ofChange s with cond := some uptoSmall }

/-- 'curfewlaw25.WalNobody', WHERE WHAT IT READS IS OF BULK AT MOST 1048576: true; the input reads as it did. -/
def walNobodyUptoRow : OpenClaim := { program := "ytjdglpcnkiioeaagreat", sum := "d126dc117f66627fea879189c35d22a79b5192faffdbe0a717d654ed2fe3068e", func := "curfew/curfewlaw25.WalNobody", spec := "walNobody", inPlace := ["internal/bytealg.IndexByteString", "sync/atomic.LoadUint64", "sync/atomic.CompareAndSwapUint64"], unfollowed := true, recurses := true, apart := false, narrowed := true }
def WalNobodyUptoSaid : Prop := walNobodyUptoRow.holds Tryz.pinned (OpenSpec.upto walNobodySpec)

/-- 'curfewlaw25.WalFiles', WHERE WHAT IT READS IS OF BULK AT MOST 1048576: true; the input reads as it did. -/
def walFilesUptoRow : OpenClaim := { program := "ytjdglpcnkiioeaagreat", sum := "d126dc117f66627fea879189c35d22a79b5192faffdbe0a717d654ed2fe3068e", func := "curfew/curfewlaw25.WalFiles", spec := "walFiles", inPlace := ["internal/bytealg.IndexByteString", "sync/atomic.LoadUint64", "sync/atomic.CompareAndSwapUint64"], unfollowed := true, recurses := true, apart := false, narrowed := true }
def WalFilesUptoSaid : Prop := walFilesUptoRow.holds Tryz.pinned (OpenSpec.upto walFilesSpec)

/-- 'curfewlaw25.WalKeeps', WHERE WHAT IT READS IS OF BULK AT MOST 1048576: true; the input reads as it did. -/
def walKeepsUptoRow : OpenClaim := { program := "ytjdglpcnkiioeaagreat", sum := "d126dc117f66627fea879189c35d22a79b5192faffdbe0a717d654ed2fe3068e", func := "curfew/curfewlaw25.WalKeeps", spec := "walKeeps", inPlace := ["internal/bytealg.IndexByteString", "sync/atomic.LoadUint64", "sync/atomic.CompareAndSwapUint64"], unfollowed := true, recurses := true, apart := false, narrowed := true }
def WalKeepsUptoSaid : Prop := walKeepsUptoRow.holds Tryz.pinned (OpenSpec.upto walKeepsSpec)

/-- 'curfewlaw28.VaultOpens', WHERE WHAT IT READS IS OF BULK AT MOST 1048576: true; the input reads as it did. -/
def vaultOpensUptoRow : OpenClaim := { program := "ytjdglpcnkiioeaagreat", sum := "d126dc117f66627fea879189c35d22a79b5192faffdbe0a717d654ed2fe3068e", func := "curfew/curfewlaw28.VaultOpens", spec := "vaultOpens", inPlace := ["sync/atomic.LoadUint64", "sync/atomic.CompareAndSwapUint64", "internal/bytealg.IndexByteString"], unfollowed := true, recurses := true, apart := false, narrowed := true }
def VaultOpensUptoSaid : Prop := vaultOpensUptoRow.holds Tryz.pinned (OpenSpec.upto vaultOpensSpec)

/-- 'curfewlaw28.VaultBroken', WHERE WHAT IT READS IS OF BULK AT MOST 1048576: true; the input reads as it did. -/
def vaultBrokenUptoRow : OpenClaim := { program := "ytjdglpcnkiioeaagreat", sum := "d126dc117f66627fea879189c35d22a79b5192faffdbe0a717d654ed2fe3068e", func := "curfew/curfewlaw28.VaultBroken", spec := "vaultBroken", inPlace := ["sync/atomic.LoadUint64", "sync/atomic.CompareAndSwapUint64", "internal/bytealg.IndexByteString"], unfollowed := true, recurses := true, apart := false, narrowed := true }
def VaultBrokenUptoSaid : Prop := vaultBrokenUptoRow.holds Tryz.pinned (OpenSpec.upto vaultBrokenSpec)

/-- 'curfewlaw28.VaultWhole', WHERE WHAT IT READS IS OF BULK AT MOST 1048576: true; the input reads as it did. -/
def vaultWholeUptoRow : OpenClaim := { program := "ytjdglpcnkiioeaagreat", sum := "d126dc117f66627fea879189c35d22a79b5192faffdbe0a717d654ed2fe3068e", func := "curfew/curfewlaw28.VaultWhole", spec := "vaultWhole", inPlace := ["sync/atomic.LoadUint64", "sync/atomic.CompareAndSwapUint64", "internal/bytealg.IndexByteString"], unfollowed := true, recurses := true, apart := false, narrowed := true }
def VaultWholeUptoSaid : Prop := vaultWholeUptoRow.holds Tryz.pinned (OpenSpec.upto vaultWholeSpec)

/-- 'curfewlaw28.VaultKeeps', WHERE WHAT IT READS IS OF BULK AT MOST 1048576: true; the input reads as it did. -/
def vaultKeepsUptoRow : OpenClaim := { program := "ytjdglpcnkiioeaagreat", sum := "d126dc117f66627fea879189c35d22a79b5192faffdbe0a717d654ed2fe3068e", func := "curfew/curfewlaw28.VaultKeeps", spec := "vaultKeeps", inPlace := ["sync/atomic.LoadUint64", "sync/atomic.CompareAndSwapUint64", "internal/bytealg.IndexByteString"], unfollowed := true, recurses := true, apart := false, narrowed := true }
def VaultKeepsUptoSaid : Prop := vaultKeepsUptoRow.holds Tryz.pinned (OpenSpec.upto vaultKeepsSpec)

/-- 'curfewlaw28.VaultPlays', WHERE WHAT IT READS IS OF BULK AT MOST 1048576: true; the input reads as it did. -/
def vaultPlaysUptoRow : OpenClaim := { program := "ytjdglpcnkiioeaagreat", sum := "d126dc117f66627fea879189c35d22a79b5192faffdbe0a717d654ed2fe3068e", func := "curfew/curfewlaw28.VaultPlays", spec := "vaultPlays", inPlace := ["sync/atomic.LoadUint64", "sync/atomic.CompareAndSwapUint64", "internal/bytealg.IndexByteString"], unfollowed := true, recurses := true, apart := false, narrowed := true }
def VaultPlaysUptoSaid : Prop := vaultPlaysUptoRow.holds Tryz.pinned (OpenSpec.upto vaultPlaysSpec)

end Rows
end Go.Proofs.YtjdglpcnkiioeaaGreat
