/- For vltopens_law_holds. -/
import Derived.OneCell
import Derived.Test.YtjdglpcnkiioeaaGreatVob30
namespace Go.Proofs.YtjdglpcnkiioeaaGreat
open Go.RowKit Go.Maps Go.Proofs.Own

theorem zA (L:List Nat)(j y:Nat):(ints (L.set j y)).map (Value.int .u8)=((ints L).map (Value.int .u8)).set j (.int .u8 (y:Int)):=by
 unfold ints;rw[List.map_set,List.map_set]
