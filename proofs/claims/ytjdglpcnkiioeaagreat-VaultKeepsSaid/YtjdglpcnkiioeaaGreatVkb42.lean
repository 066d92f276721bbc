/- Several texts in one: Vtw for vltkeeps_law_holds. No conditions but those stated. -/
import Derived.Deep.LoopGhost
import Derived.Deep.CutBlock
import Derived.Deep.DeepCutAuto
import Derived.Test.YtjdglpcnkiioeaaGreatVkb41
namespace Go.Proofs.YtjdglpcnkiioeaaGreat
open Go.RowKit Go.Maps Go.Proofs.Own Go.Shelf

theorem sO {w:World} {b:VB} {ev fv:Value} {el:bE} {D:aA} {V:cB} (h:aV w b ev fv el D V) {z:Int} (hz:V.s.i = z):Calls Tryz.prog 50 #[.pointer (some ⟨b.vb,0,none⟩)] w fun e w'=>e = .returned (.int .u64 z) /\ Below w.heap.size w w':=by
 subst hz
 exact uA h
end Go.Proofs.YtjdglpcnkiioeaaGreat
