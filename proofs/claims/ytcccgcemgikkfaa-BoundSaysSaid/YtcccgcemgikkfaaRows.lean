/-
  No cell of these rows narrows 'for every input' (looked for: loops, veiled, ifaces, maps, wideKeys, modest, calm, conditions, laid).
  DERIVED. THE GIVEN ROWS OF THIS SEAT. 4 by the template 'for every input the law returns true; each argument reads behind the call as it read before'; 0 by the template 'total and deterministic' (their statements: YtcccgcemgikkfaaTotals.lean).
  GIVEN WITH THE SEED: the statements are not yours to turn. If you find one false, say at which input.
  Laid BY PROGRAM, IN A SANDBOX (cutbox-rows.mjs): the forced cells as the released guide's own fill.sh prints them over the translation 307e994abfaa9f33… (all of the seat's roots in one cut). By AI agents, Wed Nov 11 2026. No macro, syntax, notation, axiom, sorry.
-/
import Derived.Test.YtcccgcemgikkfaaChecked
import GoSem.Claim
import GoSem.ClaimJoined
import GoSem.ClaimMapViews
import Derived.JoinedTies
import Derived.KernelRfl
namespace Go.Proofs.Ytcccgcemgikkfaa
/- THE CELL 'sum', in the pinned program and in every row, IS THE sha256 OF THE DUMP (.gsa) THAT YtcccgcemgikkfaaProg.lean LOADS. Nothing in Lean hashes anything: it is a label: what it is worth is what the hold of that sum in a sandbox is worth. -/
noncomputable def Try.pinned : Pinned := { name := "ytcccgcemgikkfaa", sum := "307e994abfaa9f332e47a81d6bb607034ade2be73da7d85943e6488aa18d93c0", checked := Try.checked }
namespace Rows
def none {H : Type} : Left H := { results := [], args := [] }

/-- 'curfewlaw37.PartyPlays': WHATEVER THE INPUT: true; the input reads as it did. -/
def partyPlaysSpec : ChangeSpec := { name := "partyPlays", fn := fun _ => fun
  | [d1, d2, d3] => { results := [.lit (.bool true)], args := [d1, d2, d3] }
  | _ => none }
def partyPlaysRow : OpenClaim := { program := "ytcccgcemgikkfaa", sum := "307e994abfaa9f332e47a81d6bb607034ade2be73da7d85943e6488aa18d93c0", func := "curfew/curfewlaw37.PartyPlays", spec := "partyPlays", unfollowed := true, recurses := true, apart := false }
def PartyPlaysSaid : Prop := partyPlaysRow.holds Try.pinned (OpenSpec.ofChange partyPlaysSpec)

/-- ITS FALSE NEIGHBOUR: 'it returns false'. Refute it at one input. -/
def partyPlaysWrong : ChangeSpec := { name := "partyPlays", fn := fun _ => fun
  | [d1, d2, d3] => { results := [.lit (.bool false)], args := [d1, d2, d3] }
  | _ => none }
def PartyPlaysWrongFalsely : Prop := partyPlaysRow.holds Try.pinned (OpenSpec.ofChange partyPlaysWrong)

/-- 'curfewlaw37.PartyOnce': WHATEVER THE INPUT: true; the input reads as it did. -/
def partyOnceSpec : ChangeSpec := { name := "partyOnce", fn := fun _ => fun
  | [d] => { results := [.lit (.bool true)], args := [d] }
  | _ => none }
def partyOnceRow : OpenClaim := { program := "ytcccgcemgikkfaa", sum := "307e994abfaa9f332e47a81d6bb607034ade2be73da7d85943e6488aa18d93c0", func := "curfew/curfewlaw37.PartyOnce", spec := "partyOnce", unfollowed := true, recurses := true, apart := false }
def PartyOnceSaid : Prop := partyOnceRow.holds Try.pinned (OpenSpec.ofChange partyOnceSpec)

/-- ITS FALSE NEIGHBOUR: 'it returns false'. Refute it at one input. -/
def partyOnceWrong : ChangeSpec := { name := "partyOnce", fn := fun _ => fun
  | [d] => { results := [.lit (.bool false)], args := [d] }
  | _ => none }
def PartyOnceWrongFalsely : Prop := partyOnceRow.holds Try.pinned (OpenSpec.ofChange partyOnceWrong)

/-- 'curfewlaw37.PartyApart': WHATEVER THE INPUT: true; the input reads as it did. -/
def partyApartSpec : ChangeSpec := { name := "partyApart", fn := fun _ => fun
  | [d1, d2, d3] => { results := [.lit (.bool true)], args := [d1, d2, d3] }
  | _ => none }
def partyApartRow : OpenClaim := { program := "ytcccgcemgikkfaa", sum := "307e994abfaa9f332e47a81d6bb607034ade2be73da7d85943e6488aa18d93c0", func := "curfew/curfewlaw37.PartyApart", spec := "partyApart", inPlace := ["maps.clone"], unfollowed := true, recurses := true, apart := false }
def PartyApartSaid : Prop := partyApartRow.holds Try.pinned (OpenSpec.ofChange partyApartSpec)

/-- ITS FALSE NEIGHBOUR: 'it returns false'. Refute it at one input. -/
def partyApartWrong : ChangeSpec := { name := "partyApart", fn := fun _ => fun
  | [d1, d2, d3] => { results := [.lit (.bool false)], args := [d1, d2, d3] }
  | _ => none }
def PartyApartWrongFalsely : Prop := partyApartRow.holds Try.pinned (OpenSpec.ofChange partyApartWrong)

/-- 'curfewlaw40.BoundSays': WHATEVER THE INPUT: true; the input reads as it did. -/
def boundSaysSpec : ChangeSpec := { name := "boundSays", fn := fun _ => fun
  | [d] => { results := [.lit (.bool true)], args := [d] }
  | _ => none }
def boundSaysRow : OpenClaim := { program := "ytcccgcemgikkfaa", sum := "307e994abfaa9f332e47a81d6bb607034ade2be73da7d85943e6488aa18d93c0", func := "curfew/curfewlaw40.BoundSays", spec := "boundSays", unfollowed := true, recurses := true, apart := false }
def BoundSaysSaid : Prop := boundSaysRow.holds Try.pinned (OpenSpec.ofChange boundSaysSpec)

/-- ITS FALSE NEIGHBOUR: 'it returns false'. Refute it at one input. -/
def boundSaysWrong : ChangeSpec := { name := "boundSays", fn := fun _ => fun
  | [d] => { results := [.lit (.bool false)], args := [d] }
  | _ => none }
def BoundSaysWrongFalsely : Prop := boundSaysRow.holds Try.pinned (OpenSpec.ofChange boundSaysWrong)

/- THE SECOND FORM. 'bulk': how many values and letters a reading holds, each counted each time it is reached (what is shared counts as often as it is met; a slice's spare places count too). A statement '..UptoSaid' is the law's where the arguments, and the package variables that the reading takes, are together of bulk at most 1048576: NARROWER than '..Said'. Prove '..Said' where nothing that the law and all that it calls make is longer than what came in: it says more and counts as full. Else prove '..UptoSaid'. A law counts once. -/
mutual
def uptoBulk {H : Type} : DataW H → Nat
  | .lit (.string bytes) => bytes.length + 1
  | .lit _ => 1
  | .nil => 1
  | .ptr d => uptoBulk d + 1
  | .slice elems spare => uptoBulkAll elems + uptoBulkAll spare + 1
  | .agg parts => uptoBulkAll parts + 1
  | .iface _ d => uptoBulk d + 1
  | .map entries => uptoBulkEntries entries + 1
  | .held _ => 1
def uptoBulkAll {H : Type} : List (DataW H) → Nat
  | [] => 0
  | d :: r => uptoBulk d + uptoBulkAll r
def uptoBulkEntries {H : Type} : List (Lit × DataW H) → Nat
  | [] => 0
  | x :: r => uptoBulkEntry x + uptoBulkEntries r
def uptoBulkEntry {H : Type} : Lit × DataW H → Nat
  | (.string bytes, d) => bytes.length + uptoBulk d + 1
  | (_, d) => uptoBulk d + 1
 end
def uptoSmall : (H : Type) → List (DataW H) → Bool := fun _ ds => decide (uptoBulkAll ds ≤ 1048576)
def OpenSpec.upto (s : _root_.Go.ChangeSpec) : _root_.Go.OpenSpec := { _root_.Go.OpenSpec.ofChange s with cond := some uptoSmall }

/-- 'curfewlaw37.PartyPlays', WHERE WHAT IT READS IS OF BULK AT MOST 1048576: true; the input reads as it did. -/
def partyPlaysUptoRow : OpenClaim := { program := "ytcccgcemgikkfaa", sum := "307e994abfaa9f332e47a81d6bb607034ade2be73da7d85943e6488aa18d93c0", func := "curfew/curfewlaw37.PartyPlays", spec := "partyPlays", unfollowed := true, recurses := true, apart := false, narrowed := true }
def PartyPlaysUptoSaid : Prop := partyPlaysUptoRow.holds Try.pinned (OpenSpec.upto partyPlaysSpec)

/-- 'curfewlaw37.PartyOnce', WHERE WHAT IT READS IS OF BULK AT MOST 1048576: true; the input reads as it did. -/
def partyOnceUptoRow : OpenClaim := { program := "ytcccgcemgikkfaa", sum := "307e994abfaa9f332e47a81d6bb607034ade2be73da7d85943e6488aa18d93c0", func := "curfew/curfewlaw37.PartyOnce", spec := "partyOnce", unfollowed := true, recurses := true, apart := false, narrowed := true }
def PartyOnceUptoSaid : Prop := partyOnceUptoRow.holds Try.pinned (OpenSpec.upto partyOnceSpec)

/-- 'curfewlaw37.PartyApart', WHERE WHAT IT READS IS OF BULK AT MOST 1048576: true; the input reads as it did. -/
def partyApartUptoRow : OpenClaim := { program := "ytcccgcemgikkfaa", sum := "307e994abfaa9f332e47a81d6bb607034ade2be73da7d85943e6488aa18d93c0", func := "curfew/curfewlaw37.PartyApart", spec := "partyApart", inPlace := ["maps.clone"], unfollowed := true, recurses := true, apart := false, narrowed := true }
def PartyApartUptoSaid : Prop := partyApartUptoRow.holds Try.pinned (OpenSpec.upto partyApartSpec)

/-- 'curfewlaw40.BoundSays', WHERE WHAT IT READS IS OF BULK AT MOST 1048576: true; the input reads as it did. -/
def boundSaysUptoRow : OpenClaim := { program := "ytcccgcemgikkfaa", sum := "307e994abfaa9f332e47a81d6bb607034ade2be73da7d85943e6488aa18d93c0", func := "curfew/curfewlaw40.BoundSays", spec := "boundSays", unfollowed := true, recurses := true, apart := false, narrowed := true }
def BoundSaysUptoSaid : Prop := boundSaysUptoRow.holds Try.pinned (OpenSpec.upto boundSaysSpec)

end Rows
end Go.Proofs.Ytcccgcemgikkfaa
