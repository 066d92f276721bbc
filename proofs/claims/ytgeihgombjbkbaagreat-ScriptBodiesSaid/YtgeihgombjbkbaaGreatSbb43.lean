/- For scbodies_law_holds. -/
import Derived.JoinedOf
import Derived.Test.YtgeihgombjbkbaaGreatRows
import Derived.Test.YtgeihgombjbkbaaGreatSbb40
set_option maxHeartbeats 16000000
set_option maxRecDepth 100000
namespace Go.Proofs.YtgeihgombjbkbaaGreat
open Go Go.Proofs.Rn

theorem aAF:Tryz.prog.unfollowed 4=true:=by unfold Program.unfollowed;rw[aK1];kernel_rfl
theorem qC:(Rows.scriptBodiesRow.unfollowed==Tryz.prog.unfollowed 4)=true:=by rw[aAF];kernel_rfl
theorem tQ:(Rows.scriptBodiesRow.recurses==Tryz.prog.recurses 4)=true:=by unfold Program.recurses;rw[aAF];kernel_rfl
theorem wB:(Rows.scriptBodiesRow.inPlace==Tryz.prog.inPlace 4)=true:=by rw[wI aKi aK1];exact beq_iff_eq.2 (by kernel_rfl)
theorem aAE:(Rows.scriptBodiesRow.named==Tryz.prog.varsNamed 4)=true:=by unfold Program.varsNamed;rw[aK1];kernel_rfl

theorem yQ:(Rows.scriptBodiesRow.lifted==Tryz.prog.liftsFinal)=true:=by kernel_rfl
theorem aJv:(Tryz.prog.make==some Rows.scriptBodiesRow.make)=true:=by kernel_rfl
