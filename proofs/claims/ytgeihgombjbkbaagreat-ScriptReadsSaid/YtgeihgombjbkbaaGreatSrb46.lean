/- For screads_law_holds. -/
import Derived.Test.YtgeihgombjbkbaaGreatSrb43
import Derived.Test.YtgeihgombjbkbaaGreatSrb44
import Derived.Test.YtgeihgombjbkbaaGreatSrb45
import Derived.Test.YtgeihgombjbkbaaGreatSrb4
set_option maxHeartbeats 16000000
set_option maxRecDepth 100000
namespace Go.Proofs.YtgeihgombjbkbaaGreat
open Go Go.Proofs.Rn

theorem cR {a b:Bool}(h:a=true)(k:b=true):(a&&b)=true:=by rw[h,k];rfl
theorem aLa:Rows.scriptReadsRow.wf (OpenSpec.ofChange Rows.scriptReadsSpec)=true:=by kernel_rfl
theorem qL:mapsRowed Tryz.prog=true:=by kernel_rfl
theorem qM:(Rows.scriptReadsRow.plainKeys==Tryz.prog.plainKeys)=true:=by kernel_rfl
theorem closed:joinedFacts Tryz.prog 3 Tryz.f3 Rows.scriptReadsSpec Rows.scriptReadsRow=true:=by
 unfold joinedFacts;exact cR (cR (cR (cR (cR (cR (cR (cR (cR (cR (cR (cR (cR (cR (cR (cR (cR (cR (cR (cR (cR (cR (cR (cR (cR (cR (cR (cR (cR (cR (cR (aLa) laid) qL) wI) (by kernel_rfl)) (by kernel_rfl)) (by kernel_rfl)) (by kernel_rfl)) (by kernel_rfl)) uE) oV) rS) yV) aIq) wG) (by kernel_rfl)) yU) rT) (by kernel_rfl)) wJ) qK) rQ) qM) (by kernel_rfl)) oU) rR) wH) aIp) (by kernel_rfl)) (by kernel_rfl)) wK) aIo
