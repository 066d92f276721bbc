/- For scbytes_law_holds. -/
import Derived.JoinedOf
import Derived.Test.YtgeihgombjbkbaaGreatRows
import Derived.Test.YtgeihgombjbkbaaGreatSyb43
set_option maxHeartbeats 16000000
set_option maxRecDepth 100000
namespace Go.Proofs.YtgeihgombjbkbaaGreat
open Go Go.Proofs.Rn

theorem aAy:Tryz.prog.unfollowed 5=true:=by unfold Program.unfollowed;rw[aKT];kernel_rfl
theorem pJ:(Rows.scriptBytesRow.unfollowed==Tryz.prog.unfollowed 5)=true:=by rw[aAy];kernel_rfl
theorem tF:(Rows.scriptBytesRow.recurses==Tryz.prog.recurses 5)=true:=by unfold Program.recurses;rw[aAy];kernel_rfl
theorem vQ:(Rows.scriptBytesRow.inPlace==Tryz.prog.inPlace 5)=true:=by rw[inPlace_eq aJ6 aKT];exact beq_iff_eq.2 (by kernel_rfl)
theorem aAx:(Rows.scriptBytesRow.named==Tryz.prog.varsNamed 5)=true:=by unfold Program.varsNamed;rw[aKT];kernel_rfl

theorem xW:(Rows.scriptBytesRow.lifted==Tryz.prog.liftsFinal)=true:=by kernel_rfl
theorem aJo:(Tryz.prog.make==some Rows.scriptBytesRow.make)=true:=by kernel_rfl
