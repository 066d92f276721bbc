/- For vltopens_law_holds. -/
import Derived.OwnWalkIn
import Derived.Test.YtjdglpcnkiioeaaGreatVob7
namespace Go.Proofs.Own
open Go Go.RowKit Go.Proofs.YtjdglpcnkiioeaaGreat

theorem pK {F:Fence}{n:Nat}{P:Program}{t e:TypeId}{sz by':Nat}(I:eQ P t e sz by'){w:World}{ops:Array Oper}{rest:List Oper}{o:Oper}{a:Act}{Q:Exit->Act->World->Prop}(s x:Operand)
  (hgd:o.guard=none) (ho:o.op=Op.call { callee:=Callee.builtin Builtin.append,args:=#[s,x],argTypes:=#[t,t] }) (v xv:Value) (rs ns:List (List Value)) (hs:a.eval s=v) (hx:a.eval x=xv)
  (hown:cM w e sz v rs) (hsr:bJ w sz xv ns) (hr:∀r ∈ ns,r.length=sz) (h1:∀r ∈ ns,∀u ∈ r,u.oneCell'=true) (h8:No8 ns.flatten) (hz8:aBN P e) (hlen:rs.length+ns.length<=4294967296)
  (h:∀v' w',cM w' e sz v' (rs++ns)->w.grownBy w' v.ownBlock->(v'.ownBlock=v.ownBlock\/v'.ownBlock=some w.heap.size)->wpListIn F n P ops Q rest (a.put o.dst v') w') :
  wpListIn F n P ops Q (o::rest) a w:=by
 refine wpListIn_plain hgd fun K hK'=>?_;obtain⟨v',w',hrun,r1,r2,r3⟩:=oI I w o.type v xv rs ns hown hsr hr h1 h8 hz8 hlen;unfold Oper.wpIn;refine⟨?_,?_⟩
 ·simp[Oper.about,ho,resolve,Target.leads,Sem.run_pure]
 ·rw[Oper.semAt_plain F _ _ (by rw[ho];intro c hc';cases hc')];simp[execOp,ho,resolve,invoke,builtin,hs,hx,hrun,Result.andThen];exact hK' _ _ (h v' w' r1 r2 r3)
end Go.Proofs.Own
