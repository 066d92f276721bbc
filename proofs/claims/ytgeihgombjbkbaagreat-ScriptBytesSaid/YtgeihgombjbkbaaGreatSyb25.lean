/- For scbytes_law_holds. -/
import Derived.Test.YtgeihgombjbkbaaGreatSyb11
import Derived.Test.YtgeihgombjbkbaaGreatSyb19
namespace Go.Proofs.Own
open Go Go.RowKit
def Fe (n:Nat)(R:World->Prop)(w:World)(L:Bx):Prop:=∃w0 ro,ro.length=n/\Fo ro (fun _=>False) w0 R w L
section
variable {n m:Nat} {R Z:World->Prop} {w w':World} {L:Bx}
theorem Fe.frm (n:Nat)(R:World->Prop):Frm (Fe n R) ⟨false,n⟩ :=
 ⟨fun ⟨_,_,hn,F⟩ _ _ h=>(Fo.frm _ _ _ _ n hn).box F h,fun ⟨w0,ro,hn,F⟩ _ _ _ _ _ h1 h2 h3 h4=>⟨w0,ro,hn,(Fo.frm _ _ _ _ n hn).set F h1 h2 h3 h4⟩,fun ⟨w0,ro,hn,F⟩ _ _ h=>⟨w0,ro,hn,(Fo.frm _ _ _ _ n hn).new F h⟩,fun ⟨w0,ro,hn,F⟩=>⟨w0,ro,hn,(Fo.frm _ _ _ _ n hn).drew F⟩⟩
theorem Fe.start (h:∀v,Below w.heap.size w v->R v):Fe 0 R w []:=⟨w,[],rfl,Fo.start nofun h⟩
theorem Fe.now (F:Fe n R w L):R w:=let ⟨_,_,_,f⟩:=F;f.now
theorem Fe.on (F:Fe n R w L)(hb:Below w.heap.size w w')(hm:L.length=m:=by rfl):Fe m R w' L:=let ⟨_,_,_,f⟩:=F;⟨w',L,hm,f.on hb⟩
theorem Fe.step (F:Fe n R w L)(hb:Below w.heap.size w w')(hz:∀v,Below w'.heap.size w' v->Z v)(hm:L.length=m:=by rfl):Fe m (fun v=>Z v/\R v) w' L:=let ⟨_,_,_,f⟩:=F;⟨w',L,hm,f.step hb hz⟩
theorem Fe.later {v:World}(F:Fe n R w L)(hb:Below w.heap.size w v):R v:=let ⟨_,_,_,f⟩:=F;f.later hb
theorem Fe.imp (F:Fe n R w L)(h:∀v,R v->Z v):Fe n Z w L:=by
 obtain⟨w0,ro,hn,L',e,f⟩:=F;exact⟨w0,ro,hn,L',e,f.box,f.inj,f.rng,f.bel,f.saf.imp fun v hv=>⟨hv.1,h v hv.2⟩,f.lim⟩
end
structure IX (n:Nat)(p:Nat->Prop) where
 j:Nat
 x:Nat->Value
 hj:j<=n
 hp:p j
section
variable {P:Program} {Q:Exit->Act->World->Prop} {k8:KB} {F:World->Bx->Prop} {s:St} {k:List KF} {n:Nat} {p:Nat->Prop}
def IxJ (FF:World->Bx->Prop)(lv:Nat->List (Nat × AV))(bx:List (List AV))(m n:Nat)(p:Nat->Prop)(i:IX n p):Act->World->Prop:=fun a w=>∃(j:IX n p) (B:Nat->Nat),n-j.j<n-i.j/\a=St.act B ⟨mkT j.x (lv j.j) 0 m,bx⟩/\FF w (mkB B 0 bx)
theorem jB (FF:World->Bx->Prop)(lv:Nat->List (Nat × AV))(m n:Nat)(p:Nat->Prop)(hp:p 0){c:Code}(h0:∀B,agL B s.tm (lv 0))(hF:∀B w,F w (mkB B 0 s.bx)->FF w (mkB B 0 s.bx))
  (h:∀(i:IX n p) J,J=IxJ FF lv s.bx m n p i->Ok P Q FF (.code c) ⟨mkT i.x (lv i.j) 0 m,s.bx⟩ (.inv J::k)) (hn:s.tm.length=m:=by rfl):bE P Q F k8 (.at (.code (.loop c)) s k) :=
 iH (fun _:IX n p=>FF) (fun i=>⟨mkT i.x (lv i.j) 0 m,s.bx⟩) (fun i=>n-i.j) m (fun B _ H=>⟨⟨0,fun j=>(getT s.tm j).den B,Nat.zero_le _,hp⟩,lv 0,rfl,h0 B,hF B _ H⟩) (fun i J hJ=>h i J hJ) hn
theorem lI {FF:World->Bx->Prop}{lv:Nat->List (Nat × AV)}{m:Nat}{i:IX n p}{bx:List (List AV)}{J:Act->World->Prop}(hJ:J=IxJ FF lv bx m n p i)(hj:i.j<n)(hp:p (i.j+1))(h0:∀B,agL B s.tm (lv (i.j+1)))(hF:∀w L,F w L->FF w L)(hb:s.bx=bx:=by rfl)(hn:s.tm.length=m:=by rfl):bE P Q F k8 (.inv J s):=by
 subst hb;exact jT (FF:=fun _:IX n p=>FF) (ss:=fun i=>⟨mkT i.x (lv i.j) 0 m,s.bx⟩) (μ:=fun i=>n-i.j) m hJ (fun B _ H=>⟨⟨i.j+1,fun j=>(getT s.tm j).den B,hj,hp⟩,lv (i.j+1),by show n-(i.j+1)<n-i.j;omega,rfl,h0 B,hF _ _ H⟩) hn
def FxJ {ι:Type}(FF:ι->World->Bx->Prop)(xs:ι->Nat->Value)(lv:ι->List (Nat × AV))(bx:ι->List (List AV))(μ:ι->Nat)(m:Nat)(i:ι):Act->World->Prop:=fun a w=>∃j B,μ j < μ i/\a=St.act B ⟨mkT (xs j) (lv j) 0 m,bx j⟩/\FF j w (mkB B 0 (bx j))
theorem dI {ι:Type}(FF:ι->World->Bx->Prop)(xs:ι->Nat->Value)(lv:ι->List (Nat × AV))(bx:ι->List (List AV))(μ:ι->Nat)(m:Nat){c:Code}(mk:(Nat->Value) -> ι)(hx:∀x,xs (mk x)=x)(h0:∀B x,agL B s.tm (lv (mk x)))(hF:∀B w,F w (mkB B 0 s.bx) -> ∀x,FF (mk x) w (mkB B 0 (bx (mk x))))
  (h:∀(i:ι) J,J=FxJ FF xs lv bx μ m i->Ok P Q (FF i) (.code c) ⟨mkT (xs i) (lv i) 0 m,bx i⟩ (.inv J::k)) (hn:s.tm.length=m:=by rfl):bE P Q F k8 (.at (.code (.loop c)) s k) :=
 iH FF (fun i=>⟨mkT (xs i) (lv i) 0 m,bx i⟩) μ m (fun B w H=>⟨mk (fun j=>(getT s.tm j).den B),lv (mk (fun j=>(getT s.tm j).den B)),by rw[hx],h0 B _,hF B w H _⟩) h hn
theorem eI {ι:Type}{FF:ι->World->Bx->Prop}{xs:ι->Nat->Value}{lv:ι->List (Nat × AV)}{bx:ι->List (List AV)}{μ:ι->Nat}{m:Nat}{i:ι}{J:Act->World->Prop}(hJ:J=FxJ FF xs lv bx μ m i)(mk:(Nat->Value) -> ι)(hx:∀x,xs (mk x)=x)(hm:∀x,μ (mk x) < μ i)(h0:∀B x,agL B s.tm (lv (mk x)))(hF:∀B w,F w (mkB B 0 s.bx) -> ∀x,FF (mk x) w (mkB B 0 (bx (mk x))))(hn:s.tm.length=m:=by rfl):bE P Q F k8 (.inv J s) :=
 jT (FF:=FF) (ss:=fun i=>⟨mkT (xs i) (lv i) 0 m,bx i⟩) (μ:=μ) m hJ (fun B w H=>⟨mk (fun j=>(getT s.tm j).den B),lv (mk (fun j=>(getT s.tm j).den B)),hm _,by rw[hx],h0 B _,hF B w H _⟩) hn
end
theorem wrI {j n:Nat}(h:j<n)(hn:n<=4294967296):IntKind.i64.wrap ((j:Int)+1)=((j+1:Nat):Int):=by
 rw[show (j:Int)+1=((j+1:Nat):Int) from rfl];simp only[IntKind.wrap,IntKind.bits,IntKind.signed];simp;omega
end Go.Proofs.Own
namespace Go.Proofs.YtgeihgombjbkbaaGreat
open Go.RowKit Go.Maps Go.Proofs.Own
theorem aM.range {w:World}{sz b o n c:Nat}{rs:List (List Value)}(h:aM w sz (.slice (some ⟨b,o,none⟩) n c) rs){j:Nat}(hj:j<rs.length):w.rangeAt b (o+j*sz) rs[j]:=by
 obtain⟨b',o',e,_,hc⟩:=h.at hj;cases e;exact fun i x hi=>hc i x hi
end Go.Proofs.YtgeihgombjbkbaaGreat
namespace Go.Proofs.Own
open Go Go.RowKit
section
variable {P:Program} {Q:Exit->Act->World->Prop} {tt:TypeId->Option TI} {fs:FuncId->Bool} {k8:KB} {F:World->Bx->Prop} {s s':St} {k:List KF} {l:List Oper} {R:World->Prop} {bx:List (List AV)} {C:St->Prop}
def HS (P:Program)(l:List Oper)(R:World->Prop)(bx:List (List AV))(C:St->Prop):List Oper->St->Prop
 | [],s=>s.bx=bx/\C s
 | o::r,s=>(wantA l s o=some false/\HS P l R bx C r (s.put o.dst (.v undef)))\/(wantA l s o=some true /\ ∃v:AV,(∀B w,(loadLike o.op=true->(∀(i:Nat) c,bx[i]? = some c->Box w (B i,AV.denL B c))/\R w)->(execOp (s.act B).eval o).run P w = .ok (.value (v.den B)) w)/\HS P l R bx C r (s.put o.dst v))
def ldB (bx:List (List AV)):Op->List (List AV)
 | .load _ _=>bx
 | _=>[]
def hsRun (tt:TypeId->Option TI)(bx:List (List AV))(l:List Oper):Nat->List Oper->St->List Oper × St
 | 0,r,s=>(r,s)
 | _+1,[],s=>([],s)
 | n+1,o::r,s=>match wantA l s o with
  | some false=>hsRun tt bx l n r (s.put o.dst (.v undef))
  | some true=>match quiet o.op,evOp tt ⟨false,0⟩ ⟨s.tm,ldB bx o.op⟩ o.op with
   | true,.val v _=>hsRun tt bx l n r (s.put o.dst v)
   | _,_=>(o::r,s)
  | none=>(o::r,s)
theorem vT (hT:TTok P tt):∀(n:Nat) (r:List Oper) (s:St),HS P l R bx C (hsRun tt bx l n r s).1 (hsRun tt bx l n r s).2->HS P l R bx C r s
 | 0,_,_,h=>h
 | _+1,[],_,h=>h
 | n+1,o::r,s,h=>by
  rw[hsRun]at h;split at h
  ·rename_i hw;exact .inl ⟨hw,vT hT n _ _ h⟩
  ·rename_i hw;split at h
   ·rename_i v s1 hq hv;refine .inr ⟨hw,v,fun B w hS=>?_,vT hT n _ _ h⟩;have hact:St.act B ⟨s.tm,ldB bx o.op⟩=s.act B:=rfl;have hc:Cel B ⟨s.tm,ldB bx o.op⟩ w:=fun i c hi=>by
     cases e:o.op<;>rw[e]at hi<;>first|(simp[ldB]at hi;done)|skip
     rw[e]at hS;intro j v hv;have:=((hS rfl).1 i c hi).2 j v hv;exact this.1
    rw[<- hact];exact(evQ_ok hT hc o hv hq).2
   ·exact h
  ·exact h
theorem cV (hT:TTok P tt){r r':List Oper}(h:HS P l R bx C r' s')(e:hsRun tt bx l 1000 r s=(r',s'):=by cbv):HS P l R bx C r s:=vT hT 1000 r s (e ▸ h)
theorem eC {r:List Oper}{o:Oper}(v:AV)(hrun:∀B w,(loadLike o.op=true->(∀(i:Nat) c,bx[i]? = some c->Box w (B i,AV.denL B c))/\R w)->(execOp (s.act B).eval o).run P w = .ok (.value (v.den B)) w)(h:HS P l R bx C r (s.put o.dst v))(hw:wantA l s o=some true:=by cbv):HS P l R bx C (o::r) s:=.inr ⟨hw,v,hrun,h⟩
theorem lT {B:Nat->Nat}{S:World->Prop}{L:Act->Prop}(hS:∀w,S w->(∀(i:Nat) c,bx[i]? = some c->Box w (B i,AV.denL B c))/\R w)(hL:∀s',s'.bx=bx->C s'->L (s'.act B)):∀(r:List Oper) (s:St),HS P l R bx C r s->dG P l.toArray S L r (s.act B)
 | [],s,h=>cP (hL s h.1 h.2)
 | o::r,s,h=>by
  rcases h with ⟨hw,h⟩|⟨hw,v,hv,h⟩
  ·refine fD (want_den hw) ?_;have:=lT hS hL r _ h
   rwa [St.bR]at this
  ·have hg:=lT hS hL r _ h;rw[St.bR]at hg;cases hld:loadLike o.op
   ·exact cA (v.den B) (want_den hw) (fun w=>hv B w fun e=>by rw[hld]at e;cases e) hg
   ·exact cK (v.den B) (want_den hw) (fun w hw2=>hv B w fun _=>hS w hw2) hld hg
theorem sX {id:Nat}(E:Env P Q tt fs)(hF:Frm F k8)(M H:List Nat)(st:List Stg)(R:World->Prop)(hR:∀w L,F w L->R w)(hRa:∀w o,R w->R (w.alloc o))
  (h:HS P l R s.bx (fun s'=>Ok P Q F (.pl l 0 [] [] false st) s' k) (H.flatMap fun i=>(l.drop i).take 1) s)
  (hp:(Region.noSelect l.toArray&&maskOk l.toArray M&&planB l M 0 (.h H::st) (Array.replicate l.length false)&&decide (planN (.h H::st)=l.length))=true:=by kernel_rfl):bE P Q F k8 (.at (.code (.region id l.toArray true)) s k):=fun B w H0=>by
 have H1:=hF.drew H0;refine mZ M 0 (.h H::st) (fun w=>(∀(i:Nat) c,s.bx[i]? = some c->Box w (B i,AV.denL B c))/\R w) E.mix hp (hP E.pan k) (fun v o hv=>⟨fun i c hi=>(hv.1 i c hi).kept (Kept.alloc v o (fun _=>False)) (fun h=>h),hRa v o hv.2⟩) ?_;have hb:∀(i:Nat) c,s.bx[i]? = some c->Box w.drew (B i,AV.denL B c):=fun i c hi=>hF.box H1 (i:=i) (by rw[fJ,hi,Nat.zero_add];rfl);exact aIx (.inr ⟨hb,hR _ _ H1⟩) (lT (fun w hw=>hw) (fun s' e hc=>hc B w.drew (by rw[e];exact H1) _ (fun e=>by cases e)) _ s h)
end
section
variable {P:Program} {Q:Exit->Act->World->Prop} {tt:TypeId->Option TI} {fs:FuncId->Bool} {k8:KB} {F:World->Bx->Prop} {s:St} {k:List KF} {l:List Oper} {M:List Nat} {J:Nat} {S:World->Prop}
theorem qR {R:Exit->Act->World->Prop}{f:Nat}{listed:Array Bool}{a:Act}{w:World}(hr:Region.ready .any l.toArray listed ≠ [])
  (h:∀j ∈ Region.ready .any l.toArray listed,wpList P l.toArray (dF P l.toArray M J S R f (listed.setIfInBounds j true) j) ((l.drop j).take 1) a w):Rest P l.toArray M J S R (f+1) listed a w :=
 ⟨fun hcl=>⟨fun h0=>absurd h0 hr,fun i hi=>mA hcl hi rfl (h i hi)⟩⟩
def WJ {ι:Type}(ss:ι->St)(FF:ι->World->Bx->Prop)(Ls:ι->Array Bool)(μ:ι->Nat)(L:Array Bool)(n:Nat):Act->World->Prop:=fun a w=>∃i B,Ls i=L /\ μ i=n/\a=(ss i).act B/\FF i w (mkB B 0 (ss i).bx)
theorem qW {ι:Type}(ss:ι->St)(FF:ι->World->Bx->Prop)(Ls:ι->Array Bool)(μ:ι->Nat)(hS:∀i w L,FF i w L->S w)
  (h0:∀i,μ i=0->Region.ready .any l.toArray (Ls i) = []/\Ok P Q (FF i) (.ex .n) (ss i) k)
  (h1:∀i n,μ i=n+1->Region.ready .any l.toArray (Ls i) ≠ [] /\ ∀j ∈ Region.ready .any l.toArray (Ls i),Ok P Q (FF i) (.pl l 0 [] [] false [.o j]) (ss i) (.inv (WJ ss FF Ls μ ((Ls i).setIfInBounds j true) n)::k)) :
  ∀n i B w,μ i=n->FF i w (mkB B 0 (ss i).bx)->Rest P l.toArray M J S (semK P Q k) n (Ls i) ((ss i).act B) w
 | 0,i,B,w,hi,H=>eM (h0 i hi).1 ((h0 i hi).2 B w H)
 | n+1,i,B,w,hi,H=>by
  obtain⟨g1,g2⟩:=h1 i n hi;refine qR g1 fun j hj=>?_;have h:=g2 j hj B w H S (fun e=>by cases e);have hm:∀e a' w',eY 0 S (semK P Q (.inv (WJ ss FF Ls μ ((Ls i).setIfInBounds j true) n)::k)) j (wpPlan P l 0 S (semK P Q (.inv (WJ ss FF Ls μ ((Ls i).setIfInBounds j true) n)::k)) []) e a' w'->dF P l.toArray M J S (semK P Q k) n ((Ls i).setIfInBounds j true) j e a' w':=by
   intro e a' w' h;cases e
   case normal =>
    obtain⟨i',B',e1,e2,rfl,h3⟩:=h.2;refine cS (fun _=>hS _ _ _ h3) ?_;rw[<- e1];exact qW ss FF Ls μ hS h0 h1 n i' B' w' e2 h3
   all_goals exact h
  obtain⟨o,_,hp⟩:=lW (l:=l) hj;unfold wpPlan at h;rw[hp]at h ⊢;unfold wpList at h ⊢;split
  ·rename_i hw;rw[if_pos hw]at h;have hl:LetsOut (eY 0 S (semK P Q (.inv (WJ ss FF Ls μ ((Ls i).setIfInBounds j true) n)::k)) j (wpPlan P l 0 S (semK P Q (.inv (WJ ss FF Ls μ ((Ls i).setIfInBounds j true) n)::k)) []))->LetsOut (dF P l.toArray M J S (semK P Q k) n ((Ls i).setIfInBounds j true) j):=fun ⟨a',w',h⟩=>⟨a',w',hm _ _ _ h⟩;exact h.imp (Oper.pE (fun a' w' h2=>hm .normal a' w' h2) (fun c a' w' h2=>hm (.panic c) a' w' h2) hl) fun h1=>⟨h1.1,hl h1.2⟩
  ·rename_i hw;rw[if_neg hw]at h;exact hm .normal _ _ h
theorem wT {id n:Nat}{L:Array Bool}(E:Env P Q tt fs)(hF:Frm F k8)(M H:List Nat)(J:Nat)(R:World->Prop)(hR:∀w L,F w L->R w)(hRa:∀w o,R w->R (w.alloc o))
  (h:HS P l R s.bx (fun s'=>∀B w,F w (mkB B 0 s'.bx) -> ∀S:World->Prop,(∀v,(∀(i:Nat) c,s.bx[i]? = some c->Box v (B i,AV.denL B c))->R v->S v)->Rest P l.toArray M J S (semK P Q k) n L (s'.act B) w) (H.flatMap fun i=>(l.drop i).take 1) s)
  (hp:(Region.noSelect l.toArray&&maskOk l.toArray M&&stageB l.toArray M J (Array.replicate l.length false) H)=true:=by kernel_rfl) (hL:H.foldl (fun b i=>b.setIfInBounds i true) (Array.replicate l.length false)=L:=by kernel_rfl) (hn:l.length=n+H.length:=by rfl):bE P Q F k8 (.at (.code (.region id l.toArray true)) s k):=fun B w H0=>by
 have H1:=hF.drew H0;have hb:∀(i:Nat) c,s.bx[i]? = some c->Box w.drew (B i,AV.denL B c):=fun i c hi=>hF.box H1 (i:=i) (by rw[fJ,hi,Nat.zero_add];rfl);refine dE M J (fun v=>(∀(i:Nat) c,s.bx[i]? = some c->Box v (B i,AV.denL B c))/\R v) E.mix ?_;refine bQ H hp hL hn (hP E.pan k) (fun v o hv=>⟨fun i c hi=>(hv.1 i c hi).kept (Kept.alloc v o (fun _=>False)) (fun h=>h),hRa v o hv.2⟩) (.inr ⟨hb,hR _ _ H1⟩) ?_;exact lT (fun w hw=>hw) (fun s' e hc=>hc B w.drew (by rw[e];exact H1) _ fun v h1 h2=>⟨h1,h2⟩) _ s h
end
end Go.Proofs.Own
