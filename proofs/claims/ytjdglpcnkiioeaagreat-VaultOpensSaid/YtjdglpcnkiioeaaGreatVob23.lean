/- For vltopens_law_holds. -/
import Derived.Lib.AppendStr
import Derived.Test.YtjdglpcnkiioeaaGreatVob22
import Derived.Test.YtjdglpcnkiioeaaGreatVob17
namespace Go.Proofs.YtjdglpcnkiioeaaGreat
open Go.RowKit Go.Maps Go.Proofs.Own

theorem aHb (l m:List Nat):ints l++ints m=ints (l++m):=by simp[ints]


theorem lB (k:Nat)(l:List Nat):(frP k l).length=l.length+8:=by unfold frP;rw[nN];simp
