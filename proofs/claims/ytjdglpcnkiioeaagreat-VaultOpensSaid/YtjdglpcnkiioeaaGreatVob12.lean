/- For vltopens_law_holds. -/
import Derived.Laws.IdiomCopy
import Derived.Test.YtjdglpcnkiioeaaGreatVob8
namespace Go.Proofs.Own
open Go Go.RowKit

def setL:List Value->Nat->List Value->List Value
 | c,_,[]=>c
 | c,o,v::r=>setL (c.set o v) (o+1) r
theorem Box.setL {b:Nat}:∀(vs c:List Value) (o:Nat) (w:World),Box w (b,c)->Box (w.setCells b o vs) (b,Own.setL c o vs)
 | [],_,_,_,h=>h
 | v::r,c,o,w,h=>by
  rw[World.setCells,Own.setL];exact Box.setL r _ (o+1) _ (h.set o v)
theorem Kept.setCells (b:Nat):∀(vs:List Value) (o:Nat) (w:World),Kept w (w.setCells b o vs) (fun i=>i=b)
 | [],_,w=>Kept.refl w _
 | v::r,o,w=>by
  rw[World.setCells];exact(Kept.setCell w ⟨b,o,none⟩ v).trans (Kept.setCells b r (o+1) _)
end Go.Proofs.Own
