/- A runner's tables: words. -/
import Derived.Test.YtkbpafbbogjifaaGreatBc
import Derived.Test.YtkbpafbbogjifaaGreatProg
namespace Go.Proofs.YtkbpafbbogjifaaGreat
open Go Go.Proofs.Rn
def np : V := .o (.pointer none)
def ns : V := .o (.slice none 0 0)
def nm : V := .o (.map none)
def nf : V := .o .nilFunc
def ni : V := .o .nilIface
end Go.Proofs.YtkbpafbbogjifaaGreat
