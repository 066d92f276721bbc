/- For scbodies_law_holds. -/
import Derived.Test.YtgeihgombjbkbaaGreatSbb48
import Derived.Test.YtgeihgombjbkbaaGreatSbb49
import Derived.Test.YtgeihgombjbkbaaGreatSbb50
import Derived.Test.YtgeihgombjbkbaaGreatSbb51
set_option maxHeartbeats 16000000
set_option maxRecDepth 100000
namespace Go.Proofs.YtgeihgombjbkbaaGreat
open Go Go.RowKit Go.Proofs.Own Go.Proofs.Rn
noncomputable def cts:List Cut:=[ct1,ct2,ct3,ct4,ct5,ct6,ct7,ct8]
theorem aLa:∀c ∈ cts,jE Tryz.prog c:=fun c hc=>by
 simp only[cts,List.mem_cons,List.not_mem_nil,or_false]at hc;rcases hc with rfl|rfl|rfl|rfl|rfl|rfl|rfl|rfl
 ·exact aK2
 ·exact aK3
 ·exact aK4
 ·exact aK5
 ·exact aK6
 ·exact aK7
 ·exact aK8
 ·exact aK9
noncomputable def hkX (f:FuncId) (al:List V) (h:Hp):Option (V × Hp):=match hkCut cts f al h with
 | some r=>some r
 | none=>hkF f al h
theorem aJD (w0:World)(Q:Exit->Act->World->Prop)(hQ:lO Q):Env Tryz.prog tyT.get fnT.get hkX w0 Q where
 tyk:=(dZ w0 Q hQ).tyk
 pe:=(dZ w0 Q hQ).pe
 mix:=(dZ w0 Q hQ).mix
 pan:=hQ
 fnk:=(dZ w0 Q hQ).fnk
 hok:=by
  intro f al h r h' hh E w g hw;unfold hkX at hh;split at hh
  ·rename_i r' e;cases hh;exact uD aLa e g hw
  ·exact(dZ w0 Q hQ).hok f al h r h' hh E w g hw
theorem uL:tells Tryz.prog tyT.get fnT.get hkX 6 [] 60000=true:=by decide +kernel
theorem mM (w:World):Calls Tryz.prog 6 #[] w fun e w'=>e = .returned (.bool true)/\Below w.heap.size w w':=by
 have:=aJd («as»:=[]) w (aJD w) trivial uL E0;exact this
#print axioms mM
