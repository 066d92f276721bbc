/- For scbodies_law_holds. -/
import Derived.Test.YtgeihgombjbkbaaGreatSbb4
import Derived.Test.YtgeihgombjbkbaaGreatSbb42
import Derived.Test.YtgeihgombjbkbaaGreatSbb43
import Derived.Test.YtgeihgombjbkbaaGreatSbb44
set_option maxHeartbeats 16000000
set_option maxRecDepth 100000
namespace Go.Proofs.YtgeihgombjbkbaaGreat
open Go Go.Proofs.Rn

theorem cN {a b:Bool}(h:a=true)(k:b=true):(a&&b)=true:=by rw[h,k];rfl
theorem aMs:Rows.scriptBodiesRow.wf (OpenSpec.ofChange Rows.scriptBodiesSpec)=true:=by kernel_rfl
theorem rX:mapsRowed Tryz.prog=true:=by kernel_rfl
theorem rY:(Rows.scriptBodiesRow.plainKeys==Tryz.prog.plainKeys)=true:=by kernel_rfl
theorem closed:joinedFacts Tryz.prog 4 Tryz.f4 Rows.scriptBodiesSpec Rows.scriptBodiesRow=true:=by
 unfold joinedFacts;exact cN (cN (cN (cN (cN (cN (cN (cN (cN (cN (cN (cN (cN (cN (cN (cN (cN (cN (cN (cN (cN (cN (cN (cN (cN (cN (cN (cN (cN (cN (cN (aMs) laid) rX) yR) (by kernel_rfl)) (by kernel_rfl)) (by kernel_rfl)) (by kernel_rfl)) (by kernel_rfl)) wB) qC) tQ) aAE) aJw) yP) (by kernel_rfl)) aAD) tR) (by kernel_rfl)) yS) rW) tO) rY) (by kernel_rfl)) qB) tP) yQ) aJv) (by kernel_rfl)) (by kernel_rfl)) yT) aJu
