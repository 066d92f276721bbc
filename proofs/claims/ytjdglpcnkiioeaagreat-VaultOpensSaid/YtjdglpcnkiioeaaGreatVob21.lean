/- For vltopens_law_holds. -/
import Derived.RangeFuncNested
import Derived.RangeFuncBound
import Derived.RangeFuncCalls
import Derived.RangeFuncLeaves
import Derived.Shelf.Abstract
import Derived.Shelf.RegionOpen
import Derived.OwnWalkIn
import Derived.TacticsInMore
import Derived.LoopNIn
import Derived.LoopIn
import Derived.Test.YtjdglpcnkiioeaaGreatVob5
namespace Go.Proofs.Own
open Go Go.RowKit

def wB (w:World):Nat->Prop:=fun k=>k=w.heap.size\/k=w.heap.size+1
theorem Kept.putObj (W:World)(l:Nat)(o:Obj):Kept W (W.putObj l o) (fun k=>k=l):=(Kept.cJ (grownBy_putObj' W l o)).mono fun _ _ e=>(Option.some.inj e).symm

def aKC {Γ:Type}(n:Nat)(P:Program)(gf:Nat)(lb:Array Value)(S0:Nat->Prop)(ok:Γ->Array Value->World->Prop)(nx:Γ -> Γ)(fin:Γ->Prop)(g0:Γ)(w:World):Prop :=
 ∀(l:Nat) (J:Γ->World->Prop) (Jx:World->Prop) (W:World),Below w.heap.size w W->w.heap.size<=l ->
   (∀γ A B,J γ A->Below A.heap.size A B->J γ B) ->
   (∀γ xs A,J γ A->ok γ xs A->YieldAt Fence.wide (n-1) P l xs A fun e B=>(e = .returned (.bool true)/\J (nx γ) B/\Kept A B (fun k=>S0 k\/k=l))\/(e = .returned (.bool false)/\Jx B)) ->
   J g0 W->CallsIn Fence.wide n P gf (#[.func (.yield l) #[] #[]]++lb) W fun e B=>(∃v,e = .returned v)/\((∃γ,fin γ/\J γ B)\/Jx B)

def aKF {Γ:Type}(S0:Nat->Prop)(I:Γ->World->Prop)(Ix:Code->World->Prop)(γ:Γ)(W:World):Exit->Act->World->Prop
 | .normal,_,W'=>Kept W W' S0/\I γ W'
 | .ret,_,W'=>Kept W W' S0/\Ix .ret W'
 | .exit id,_,W'=>Kept W W' S0/\Ix (.exit id) W'
 | .goto t,_,W'=>Kept W W' S0/\Ix (.goto t) W'
 | .panic _,_,_=>False
 | .outgrown,_,_=>False

theorem zE {Γ:Type}{P:Program}{n:Nat}{g:Operand}{ps:Array Tmp}{assign body:Code}{Q:Exit->Act->World->Prop}{a:Act}{w:World}{gf:Nat}{lb:Array Value}(h1:1<=n)
  (hg:a.eval g = .func (.func gf) #[] lb) (eg:∀args w,(callFunc gf args).run P w = .ok (.enter gf args) w) {S0:Nat->Prop} {ok:Γ->Array Value->World->Prop} {nx:Γ -> Γ} {fin:Γ->Prop} {g0:Γ}
  (hseq:aKC (n-1) P gf lb S0 ok nx fin g0 w) (hS0:∀k,S0 k->k<w.heap.size\/w.heap.size+1<k) (hps:∀γ xs W,ok γ xs W->xs.size=ps.size) (hok:∀γ xs A B,ok γ xs A->(∀k,wB w k -> ∃o,A.heap[k]? = some o/\o.isCells=false)->Kept A B (wB w)->ok γ xs B)
  (I:Γ->World->Prop) (Ix:Code->World->Prop) (hI:∀γ A B,I γ A->Kept A B (wB w)->I γ B) (hIx:∀c A B,Ix c A->Kept A B (wB w)->Ix c B) (h0:I g0 w) (a₁:Array Value->Act)
  (hassign:∀(l:Nat) (γ:Γ) (xs:Array Value) (W:World) (K:Act->World->Prop),ok γ xs W->K (a₁ xs) W ->
   assign.wpIn (Fence.wide.inRound l) (n-1-1) P (Exit.then K (fun _ _ _=>False)) { tmps:=(ps.zip xs).foldl (fun t (p,v)=>t.setIfInBounds p v) a.tmps,defers:=[] } W)
  (hbody:∀(l:Nat) (γ:Γ) (xs:Array Value) (W:World),I γ W->ok γ xs W->w.heap.size+1<W.heap.size->body.wpIn (Fence.wide.inRound l) (n-1-1) P (aKF S0 I Ix (nx γ) W) (a₁ xs) W)
  (hdone:∀(γ:Γ) (W:World),fin γ->I γ W->W.heap[w.heap.size]? = some (.deferred (some []))->Q .normal { a with defers:={ target:=.collected w.heap.size,args:=#[] }::a.defers } W)
  (hstop:∀(c:Code) (W:World),Ix c W->W.heap[w.heap.size]? = some (.deferred (some []))->c.wpIn Fence.wide n P Q { a with defers:={ target:=.collected w.heap.size,args:=#[] }::a.defers } W) :
  (Code.rangeFunc g ps assign body).wpIn Fence.wide n P Q a w:=by
 refine wpIn_rangeFunc fun fn hfn=>?_;obtain⟨rec,hrec⟩:∃rec:LoopState->Option Code->Loop,rec=fun st pe=>{ state:=st,pending:=pe,fn,tmps:=a.tmps,params:=ps,assign,body,defers:=w.heap.size }:=⟨_,rfl⟩;obtain⟨W1,hW1⟩:∃W1,(w.alloc (.deferred (some []))).alloc (.loop (rec .ready none))=W1:=⟨_,rfl⟩;have bW:Below w.heap.size w W1:=by rw[<- hW1];exact((Below.refl _ w).alloc (Nat.le_refl _) _).alloc (by simp) _
 have recAt:W1.heap[w.heap.size+1]? = some (.loop (rec .ready none)):=by
  rw[<- hW1];have h:=heap_alloc_new (w.alloc (.deferred (some []))) (.loop (rec .ready none))
  rwa [World.size_alloc]at h
 have defAt:W1.heap[w.heap.size]? = some (.deferred (some [])):=by
  rw[<- hW1];exact gY (heap_alloc_new w _) _
 have jU:∀(A:World) (o:Obj),Kept A (A.putObj (w.heap.size+1) o) (wB w):=fun A o=>(Kept.putObj A _ o).mono fun k _ e=>.inr e;have defKeeps:∀(A:World) (o:Obj),A.heap[w.heap.size]? = some (.deferred (some []))->(A.putObj (w.heap.size+1) o).heap[w.heap.size]? = some (.deferred (some [])):=fun A o h=>(World.putObj_heap_other (by omega)).trans h;refine⟨w.heap.size+1,[{ target:=.collected w.heap.size,args:=#[] }],W1,{ target:=.fn (.func gf) lb,args:=#[.func (.yield (w.heap.size+1)) #[] #[]] },W1,gf,
  #[.func (.yield (w.heap.size+1)) #[] #[]]++lb,W1,?_,?_,fun _ _=>trivial,?_,fun _=>h1,?_⟩
 ·rw[<- hW1,hrec];exact run_enterLoop_outer _ _ _ _ _
 ·simp only[resolve,hg];simp[go_sem]
 ·simp[invoke,go_sem,eg]
 ·refine(hseq (w.heap.size+1)
   (fun γ A=>I γ A/\A.heap[w.heap.size+1]? = some (.loop (rec .ready none))/\A.heap[w.heap.size]? = some (.deferred (some [])))
   (fun A=>∃c,Ix c A/\A.heap[w.heap.size+1]? = some (.loop (rec .done (some c)))/\A.heap[w.heap.size]? = some (.deferred (some [])))
   W1 bW (by omega) ?_ ?_ ⟨hI _ _ _ h0 (Kept.aL bW fun k h1 h2=>by omega),recAt,defAt⟩).mono ?_
  ·rintro γ A B ⟨i1,i2,i3⟩ hb;exact⟨hI _ _ _ i1 (Kept.aL hb fun k h1 h2=>by omega),(hb.block _ (Array.getElem?_eq_some_iff.1 i2).1).trans i2,(hb.block _ (Array.getElem?_eq_some_iff.1 i3).1).trans i3⟩
  ·rintro γ xs A ⟨i1,i2,i3⟩ hx;have hlt:w.heap.size+1<A.heap.size:=(Array.getElem?_eq_some_iff.1 i2).1;have hy:=run_yield (P:=P) (args:=xs) i2 (by rw[hrec];exact hps _ _ _ hx);rw[hrec]at hy;refine⟨fn,_,assign,body,hy,roundIn_of_wpIn hfn (hassign _ γ xs A _ hx ⟨_,run_beginRound i2 (by rw[hrec]),?_⟩)⟩;have k0:=jU A (.loop { rec .ready none with state:=.busy });have busy:(A.putObj (w.heap.size+1) (.loop { rec .ready none with state:=.busy })).heap[w.heap.size+1]? = some (.loop { rec .ready none with state:=.busy }):=World.putObj_heap_same hlt;have def0:=defKeeps A (.loop { rec .ready none with state:=.busy }) i3;generalize hA0:A.putObj (w.heap.size+1) (.loop { rec .ready none with state:=.busy })=A0 at k0 busy def0 ⊢;have kA:Kept A A0 (fun k=>k=w.heap.size+1):=by rw[<- hA0];exact Kept.putObj _ _ _
   clear hA0;have lt0:w.heap.size+1<A0.heap.size:=Nat.lt_of_lt_of_le hlt k0.size;refine wpIn_mono (hbody _ γ xs A0 (hI _ _ _ i1 k0) (hok _ _ _ _ hx (fun k hk=>by
    rcases hk with rfl|rfl
    ·exact⟨_,i3,rfl⟩
    ·exact⟨_,i2,rfl⟩) k0) lt0) ?_
   have fin3:∀(jump:Option Code) (B:World),Kept A0 B S0 ->
     (Instr.endRound (w.heap.size+1) jump).run P B = .ok (.bool jump.isNone) (B.putObj (w.heap.size+1) (.loop (rec (if jump.isNone then .ready else .done) jump))) /\
     (B.putObj (w.heap.size+1) (.loop (rec (if jump.isNone then .ready else .done) jump))).heap[w.heap.size+1]? = some (.loop (rec (if jump.isNone then .ready else .done) jump)) /\
     (B.putObj (w.heap.size+1) (.loop (rec (if jump.isNone then .ready else .done) jump))).heap[w.heap.size]? = some (.deferred (some [])):=fun jump B hk=>by
    have hl3:B.heap[w.heap.size+1]? = some (.loop { rec .ready none with state:=.busy }):=(hk.block _ lt0 (fun e=>by have:=hS0 _ e;omega)).trans busy;have hd3:B.heap[w.heap.size]? = some (.deferred (some [])):=(hk.block _ (by omega) (fun e=>by have:=hS0 _ e;omega)).trans def0;have hr:=run_endRound (P:=P) jump hl3;rw[hrec]at hr ⊢;exact⟨hr,World.putObj_heap_same (Nat.lt_of_lt_of_le lt0 hk.size),(World.putObj_heap_other (by omega)).trans hd3⟩
   rintro e a3 B hp;cases e with
   | normal =>
    obtain⟨hk,hi⟩:=hp;obtain⟨hr,h4,h5⟩:=fin3 none B hk;refine⟨_,_,hr,.inl ⟨rfl,⟨hI _ _ _ hi (jU B _),h4,h5⟩,?_⟩⟩;exact((kA.mono fun k _ e=>.inr e).trans (hk.mono fun k _ e=>.inl e)).trans ((Kept.putObj B _ _).mono fun k _ e=>.inr e)
   | ret =>
    obtain⟨hk,hi⟩:=hp;obtain⟨hr,h4,h5⟩:=fin3 (some .ret) B hk;exact⟨_,_,hr,.inr ⟨rfl,.ret,hIx _ _ _ hi (jU B _),h4,h5⟩⟩
   | exit id =>
    obtain⟨hk,hi⟩:=hp;obtain⟨hr,h4,h5⟩:=fin3 (some (.exit id)) B hk;exact⟨_,_,hr,.inr ⟨rfl,.exit id,hIx _ _ _ hi (jU B _),h4,h5⟩⟩
   | goto t =>
    obtain⟨hk,hi⟩:=hp;obtain⟨hr,h4,h5⟩:=fin3 (some (.goto t)) B hk;exact⟨_,_,hr,.inr ⟨rfl,.goto t,hIx _ _ _ hi (jU B _),h4,h5⟩⟩
   | panic ch=>exact hp.elim
   | outgrown=>exact hp.elim
  ·rintro e B ⟨⟨v,rfl⟩,(⟨γ,hf,i1,i2,i3⟩|⟨c,i1,i2,i3⟩)⟩
   ·exact⟨none,_,by have:=run_endLoop (P:=P) i2 (by rw[hrec];simp);rw[hrec]at this;exact this,hdone γ _ hf (hI _ _ _ i1 (jU B _)) (defKeeps B _ i3)⟩
   ·exact⟨some c,_,by have:=run_endLoop (P:=P) i2 (by rw[hrec];simp);rw[hrec]at this;exact this,hstop c _ (hIx _ _ _ i1 (jU B _)) (defKeeps B _ i3)⟩
end Go.Proofs.Own
