/- For screads_law_holds. -/
import Derived.JoinedOf
import Derived.Test.YtgeihgombjbkbaaGreatRows
import Derived.Test.YtgeihgombjbkbaaGreatSrb41
set_option maxHeartbeats 16000000
set_option maxRecDepth 100000
namespace Go.Proofs.YtgeihgombjbkbaaGreat
open Go Go.Proofs.Rn

theorem yW:Tryz.prog.unfollowed 3=true:=by unfold Program.unfollowed;rw[aJQ];kernel_rfl
theorem oV:(Rows.scriptReadsRow.unfollowed==Tryz.prog.unfollowed 3)=true:=by rw[yW];kernel_rfl
theorem rS:(Rows.scriptReadsRow.recurses==Tryz.prog.recurses 3)=true:=by unfold Program.recurses;rw[yW];kernel_rfl
theorem uE:(Rows.scriptReadsRow.inPlace==Tryz.prog.inPlace 3)=true:=by rw[inPlace_eq aJb aJQ];exact beq_iff_eq.2 (by kernel_rfl)
theorem yV:(Rows.scriptReadsRow.named==Tryz.prog.varsNamed 3)=true:=by unfold Program.varsNamed;rw[aJQ];kernel_rfl

theorem wH:(Rows.scriptReadsRow.lifted==Tryz.prog.liftsFinal)=true:=by kernel_rfl
theorem aIp:(Tryz.prog.make==some Rows.scriptReadsRow.make)=true:=by kernel_rfl
