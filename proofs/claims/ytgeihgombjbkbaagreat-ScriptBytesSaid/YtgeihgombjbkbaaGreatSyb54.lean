/- For scbytes_law_holds. -/
import Derived.Test.YtgeihgombjbkbaaGreatSyb50
import Derived.Test.YtgeihgombjbkbaaGreatSyb51
import Derived.Test.YtgeihgombjbkbaaGreatSyb52
import Derived.Test.YtgeihgombjbkbaaGreatSyb53
set_option maxHeartbeats 16000000
set_option maxRecDepth 100000
namespace Go.Proofs.YtgeihgombjbkbaaGreat
open Go Go.RowKit Go.Proofs.Own Go.Proofs.Rn
noncomputable def cts:List Cut:=[ct1,ct2,ct3,ct4,ct5,ct6,ct7,ct8]
theorem aK2:∀c ∈ cts,CutOk Tryz.prog c:=fun c hc=>by
 simp only[cts,List.mem_cons,List.not_mem_nil,or_false]at hc;rcases hc with rfl|rfl|rfl|rfl|rfl|rfl|rfl|rfl
 ·exact aKU
 ·exact aKV
 ·exact aKW
 ·exact aKX
 ·exact aKY
 ·exact aKZ
 ·exact aK0
 ·exact aK1
noncomputable def hkX (f:FuncId) (al:List V) (h:Hp):Option (V × Hp):=match hkCut cts f al h with
 | some r=>some r
 | none=>hkF f al h
theorem aJu (w0:World)(Q:Exit->Act->World->Prop)(hQ:PanOk Q):Env Tryz.prog tyT.get fnT.get hkX w0 Q where
 tyk:=(eP w0 Q hQ).tyk
 pe:=(eP w0 Q hQ).pe
 mix:=(eP w0 Q hQ).mix
 pan:=hQ
 fnk:=(eP w0 Q hQ).fnk
 hok:=by
  intro f al h r h' hh E w g hw;unfold hkX at hh;split at hh
  ·rename_i r' e;cases hh;exact hkCut_ok aK2 e g hw
  ·exact(eP w0 Q hQ).hok f al h r h' hh E w g hw
theorem tW:tells Tryz.prog tyT.get fnT.get hkX 6 [] 60000=true:=by decide +kernel
theorem qD (w:World):Calls Tryz.prog 6 #[] w fun e w'=>e = .returned (.bool true)/\Below w.heap.size w w':=by
 have:=tells_ok («as»:=[]) w (aJu w) trivial tW E0;exact this
#print axioms qD
