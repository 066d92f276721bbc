/- For screads_law_holds. -/
import Derived.Test.YtgeihgombjbkbaaGreatSrb49
import Derived.Test.YtgeihgombjbkbaaGreatSrb50
import Derived.Test.YtgeihgombjbkbaaGreatSrb51
import Derived.Test.YtgeihgombjbkbaaGreatSrb52
set_option maxHeartbeats 16000000
set_option maxRecDepth 100000
namespace Go.Proofs.YtgeihgombjbkbaaGreat
open Go Go.RowKit Go.Proofs.Own Go.Proofs.Rn
noncomputable def cts:List Cut:=[ct1,ct2,ct3,ct4,ct5,ct6,ct7,ct8]
theorem aJ0:∀c ∈ cts,CutOk Tryz.prog c:=fun c hc=>by
 simp only[cts,List.mem_cons,List.not_mem_nil,or_false]at hc;rcases hc with rfl|rfl|rfl|rfl|rfl|rfl|rfl|rfl
 ·exact aJS
 ·exact aJT
 ·exact aJU
 ·exact aJV
 ·exact aJW
 ·exact aJX
 ·exact aJY
 ·exact aJZ
noncomputable def hkX (f:FuncId) (al:List V) (h:Hp):Option (V × Hp):=match hkCut cts f al h with
 | some r=>some r
 | none=>hkF f al h
theorem aIy (w0:World)(Q:Exit->Act->World->Prop)(hQ:PanOk Q):Env Tryz.prog tyT.get fnT.get hkX w0 Q where
 tyk:=(eF w0 Q hQ).tyk
 pe:=(eF w0 Q hQ).pe
 mix:=(eF w0 Q hQ).mix
 pan:=hQ
 fnk:=(eF w0 Q hQ).fnk
 hok:=by
  intro f al h r h' hh E w g hw;unfold hkX at hh;split at hh
  ·rename_i r' e;cases hh;exact hkCut_ok aJ0 e g hw
  ·exact(eF w0 Q hQ).hok f al h r h' hh E w g hw
theorem sK:tells Tryz.prog tyT.get fnT.get hkX 6 [] 60000=true:=by decide +kernel
theorem lN (w:World):Calls Tryz.prog 6 #[] w fun e w'=>e = .returned (.bool true)/\Below w.heap.size w w':=by
 have:=tells_ok («as»:=[]) w (aIy w) trivial sK E0;exact this
#print axioms lN
