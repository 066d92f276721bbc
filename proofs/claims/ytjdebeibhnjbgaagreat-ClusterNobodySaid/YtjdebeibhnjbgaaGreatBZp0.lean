/- A runner's tables: words. -/
import Derived.Test.YtjdebeibhnjbgaaGreatBc
import Derived.Test.YtjdebeibhnjbgaaGreatProg
namespace Go.Proofs.YtjdebeibhnjbgaaGreat
open Go Go.Proofs.Rn
def np : V := .o (.pointer none)
def ns : V := .o (.slice none 0 0)
def nm : V := .o (.map none)
def nf : V := .o .nilFunc
def ni : V := .o .nilIface
end Go.Proofs.YtjdebeibhnjbgaaGreat
