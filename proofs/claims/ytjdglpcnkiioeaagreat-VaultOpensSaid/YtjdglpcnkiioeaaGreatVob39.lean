/- For vltopens_law_holds. -/
import Derived.WalkMore
import Derived.Test.YtjdglpcnkiioeaaGreatVob10
import Derived.Test.YtjdglpcnkiioeaaGreatVob36
set_option maxHeartbeats 16000000
set_option maxRecDepth 100000
namespace Go.Proofs.YtjdglpcnkiioeaaGreat
open Go.Lib (hid)
open Go.RowKit Go.Maps Go.Proofs.Own Go.Shelf
attribute [local go_sem] Oper.semAt_some

structure RC (W:World)(b:Nat)(f g:Int)(lv:Value):Prop where
 c0:W.cell? ⟨b,0,none⟩=some (.int .u64 f)
 c1:W.cell? ⟨b+1,0,none⟩=some lv
 c2:W.cell? ⟨b+2,0,none⟩=some (.int .i64 g)
 f0:W.frozen? ⟨b,0,none⟩=false
 f1:W.frozen? ⟨b+1,0,none⟩=false
 f2:W.frozen? ⟨b+2,0,none⟩=false
 n0:NoB W (fun k=>k=b)
 n1:NoB W (fun k=>k=b+1)
 n2:NoB W (fun k=>k=b+2)
theorem RC.lt {W:World}{b:Nat}{f g:Int}{lv:Value}(h:RC W b f g lv):b+2<W.heap.size:=World.block_lt_of_cell? _ _ h.c2
theorem NoB.kept {W W':World}{S T:Nat->Prop}(h:NoB W S)(hk:Kept W W' T)(hl:∀k,S k->k<W.heap.size)(hs:∀k,S k -> ¬T k):NoB W' S:=fun k hk2 j x hx =>
 h k hk2 j x (by rw[<- World.cell?_of_block (a:=⟨k,j,none⟩) (hk.block k (hl k hk2) (hs k hk2))];exact hx)
theorem RC.kept {W W':World}{b:Nat}{f g:Int}{lv:Value}{S:Nat->Prop}(h:RC W b f g lv)(hk:Kept W W' S)(h0:¬S b)(h1:¬S (b+1))(h2:¬S (b+2)):RC W' b f g lv:=by
 have hl:=h.lt;have l0:b<W.heap.size:=by omega
 have l1:b+1<W.heap.size:=by omega
 exact⟨hk.cell h.c0 h0,hk.cell h.c1 h1,hk.cell h.c2 h2,(hk.frozen (a:=⟨b,0,none⟩) l0 h0).trans h.f0,(hk.frozen (a:=⟨b+1,0,none⟩) l1 h1).trans h.f1,(hk.frozen (a:=⟨b+2,0,none⟩) hl h2).trans h.f2,
  h.n0.kept hk (fun k e=>e ▸ l0) (fun k e=>e ▸ h0),h.n1.kept hk (fun k e=>e ▸ l1) (fun k e=>e ▸ h1),h.n2.kept hk (fun k e=>e ▸ hl) (fun k e=>e ▸ h2)⟩
theorem kG {W:World}{b c:Nat}{v u:Value}(h:NoB W (fun k=>k=b))(hv:∀x,v ≠ .int .u8 x)(hc:c=b->W.cell? ⟨b,0,none⟩=some u):NoB (W.setCell ⟨c,0,none⟩ v) (fun k=>k=b):=by
 intro k hk j x hx;subst hk;by_cases e:c=k
 ·subst e;by_cases ej:j=0
  ·subst ej;rw[css (hc rfl)]at hx;exact hv x (Option.some.inj hx)
  ·rw[World.cell?_setCell_other _ _ _ _ (by simp only[ne_eq,Addr.mk.injEq,true_and,and_true];omega)]at hx;exact h c rfl j x hx
 ·rw[World.cell?_setCell_other _ _ _ _ (by simp only[ne_eq,Addr.mk.injEq,not_and];omega)]at hx;exact h k rfl j x hx
theorem RC.sJ {W:World}{b:Nat}{f g:Int}{lv:Value}(h:RC W b f g lv)(f':Int):RC (W.setCell ⟨b,0,none⟩ (.int .u64 f')) b f' g lv :=
 ⟨css h.c0, by rw [cso (by simp)]; exact h.c1, by rw [cso (by simp)]; exact h.c2,
  by rw[fsc];exact h.f0,by rw[fsc];exact h.f1,by rw[fsc];exact h.f2,kG h.n0 (fun x e=>by cases e) (fun _=>h.c0),kG (u:=lv) h.n1 (fun x e=>by cases e) (fun e=>by omega),kG (u:=lv) h.n2 (fun x e=>by cases e) (fun e=>by omega)⟩
theorem RC.pE {W:World}{b:Nat}{f g:Int}{lv:Value}(h:RC W b f g lv)(lv':Value)(hv:∀x,lv' ≠ .int .u8 x):RC (W.setCell ⟨b+1,0,none⟩ lv') b f g lv' :=
 ⟨by rw [cso (by simp)]; exact h.c0, css h.c1, by rw [cso (by simp)]; exact h.c2,
  by rw[fsc];exact h.f0,by rw[fsc];exact h.f1,by rw[fsc];exact h.f2,kG (u:=lv) h.n0 hv (fun e=>by omega),kG h.n1 hv (fun _=>h.c1),kG (u:=lv) h.n2 hv (fun e=>by omega)⟩
theorem RC.iO {W:World}{b:Nat}{f g:Int}{lv:Value}(h:RC W b f g lv)(g':Int):RC (W.setCell ⟨b+2,0,none⟩ (.int .i64 g')) b f g' lv :=
 ⟨by rw [cso (by simp)]; exact h.c0, by rw [cso (by simp)]; exact h.c1, css h.c2,
  by rw[fsc];exact h.f0,by rw[fsc];exact h.f1,by rw[fsc];exact h.f2,kG (u:=lv) h.n0 (fun x e=>by cases e) (fun e=>by omega),kG (u:=lv) h.n1 (fun x e=>by cases e) (fun e=>by omega),kG h.n2 (fun x e=>by cases e) (fun _=>h.c2)⟩
structure RdS (W:World)(b B:Nat)(s:nI)(lv:Value)(el:bN):Prop where
 rc:RC W b s.f s.g lv
 es:el.map (·.1)=s.es
 own:cM W 38 3 lv (aN el)
 at':∀k,lv.ownBlock=some k->B<=k
 dat:cA W (fun k=>k<B) el
theorem RdS.kept {W W':World}{b B:Nat}{s:nI}{lv:Value}{el:bN}{S:Nat->Prop}(h:RdS W b B s lv el)(hk:Kept W W' S)(_hb:b+2<B)(h0:¬S b)(h1:¬S (b+1))(h2:¬S (b+2))(hs:∀k,S k->k<B):RdS W' b B s lv el :=
 ⟨h.rc.kept hk h0 h1 h2,h.es,h.own.kept hk fun k e hs2=>by have:=h.at' k e;have:=hs k hs2;omega,h.at',h.dat.kept hk hs⟩
theorem RdS.below {W W':World}{b B:Nat}{s:nI}{lv:Value}{el:bN}(h:RdS W b B s lv el)(hk:Below W.heap.size W W'):RdS W' b B s lv el :=
 have k:Kept W W' (fun _=>False):=Kept.aL hk fun k h1 h2=>by omega
 ⟨h.rc.kept k id id id,h.es,h.own.below hk,h.at',h.dat.kept k fun _ e=>e.elim⟩
theorem RdS.sJ {W:World}{b B:Nat}{s:nI}{lv:Value}{el:bN}(h:RdS W b B s lv el)(hb:b+2<B)(f:Nat):RdS (W.setCell ⟨b,0,none⟩ (.int .u64 f)) b B ⟨f,s.es,s.g⟩ lv el :=
 have k:=Kept.setCell W ⟨b,0,none⟩ (.int .u64 f)
 ⟨h.rc.sJ f,h.es,h.own.kept k fun k e hs=>by have:=h.at' k e;simp only at hs;omega,h.at',h.dat.kept k fun k e=>by simp only at e;omega⟩
theorem RdS.iO {W:World}{b B:Nat}{s:nI}{lv:Value}{el:bN}(h:RdS W b B s lv el)(hb:b+2<B)(g:Nat):RdS (W.setCell ⟨b+2,0,none⟩ (.int .i64 g)) b B ⟨s.f,s.es,g⟩ lv el :=
 have k:=Kept.setCell W ⟨b+2,0,none⟩ (.int .i64 g)
 ⟨h.rc.iO g,h.es,h.own.kept k fun k e hs=>by have:=h.at' k e;simp only at hs;omega,h.at',h.dat.kept k fun k e=>by simp only at e;omega⟩
theorem RdS.aJG {W:World}{b B:Nat}{s:nI}{lv:Value}{el:bN}(h:RdS W b B s lv el)(hb:b+2<B):RdS (W.setCell ⟨b+1,0,none⟩ lv) b B s lv el :=
 have k:=Kept.setCell W ⟨b+1,0,none⟩ lv
 ⟨h.rc.pE lv (mY h.own),h.es,h.own.kept k fun k e hs=>by have:=h.at' k e;simp only at hs;omega,h.at',h.dat.kept k fun k e=>by simp only at e;omega⟩
theorem RdS.grown {W W':World}{b B:Nat}{s:nI}{lv lv':Value}{el el':bN}(h:RdS W b B s lv el)(hb:b+2<B)(hB:B<=W.heap.size)(hg:W.grownBy W' lv.ownBlock)(ho:cM W' 38 3 lv' (aN el'))(ha:lv'.ownBlock=lv.ownBlock\/lv'.ownBlock=some W.heap.size)(hd:cA W' (fun k=>k<B) el') :
  RdS (W'.setCell ⟨b+1,0,none⟩ lv') b B ⟨s.f,el'.map (·.1),s.g⟩ lv' el':=by
 have k1:=Kept.cJ hg;have at2:∀k,lv'.ownBlock=some k->B<=k:=fun k e=>by
  rcases ha with ha|ha
  ·exact h.at' k (ha ▸ e)
  ·rw[ha]at e;obtain rfl:=Option.some.inj e;exact hB
 have hn:∀j,j<B -> ¬lv.ownBlock=some j:=fun j hj e=>by have:=h.at' j e;omega
 have r1:=h.rc.kept k1 (hn _ (by omega)) (hn _ (by omega)) (hn _ (by omega));have k2:=Kept.setCell W' ⟨b+1,0,none⟩ lv';exact⟨r1.pE lv' (mY ho),rfl,ho.kept k2 fun k e hs=>by have:=at2 k e;simp only at hs;omega,at2,hd.kept k2 fun k e=>by simp only at e;omega⟩
theorem RdS.push {W W':World}{b B:Nat}{s:nI}{lv lv':Value}{el:bN}{p:cU × Value}(h:RdS W b B s lv el)(hb:b+2<B)(hB:B<=W.heap.size)(hg:W.grownBy W' lv.ownBlock)(ho:cM W' 38 3 lv' (aN el ++ [eP p]))(ha:lv'.ownBlock=lv.ownBlock\/lv'.ownBlock=some W.heap.size)
  (hp:Bytes W p.2 p.1.d) (hf:p.1.fits) (hpb:∀k,p.2.ownBlock=some k->B<=k) :
  RC W' b s.f s.g lv/\RdS (W'.setCell ⟨b+1,0,none⟩ lv') b B ⟨s.f,s.es ++ [p.1],s.g⟩ lv' (el ++ [p]):=by
 have k1:=Kept.cJ hg;have hn:∀j,j<B -> ¬lv.ownBlock=some j:=fun j hj e=>by have:=h.at' j e;omega
 have r1:=h.rc.kept k1 (hn _ (by omega)) (hn _ (by omega)) (hn _ (by omega));have hd:cA W' (fun k=>k<B) (el ++ [p]):=(h.dat.cR k1 (gB h.own)).app fun q hq=>by
  obtain rfl:=List.mem_singleton.1 hq;exact⟨hp.cR k1 (gB h.own),hf,fun k e hk=>by have:=hpb k e;omega⟩
 have g:=h.grown (el':=el ++ [p]) hb hB hg (by rw[gF];exact ho) ha hd;rw[List.map_append,h.es]at g;exact⟨r1,g⟩
def aJt (w:World)(l0 γ:List Nat)(W:World):Prop :=
 ∃n s lv el,γ.length<=n/\cZ l0=segF n γ s/\RdS W w.heap.size (w.heap.size+6) s lv el/\Below w.heap.size w W/\s.g + γ.length<=l0.length/\s.es.length<=s.g/\s.f<=1152921504606846976
def aKA (w:World)(l0:List Nat)(W:World):Prop :=
 ∃lv el,RdS W w.heap.size (w.heap.size+6) (cZ l0) lv el/\Below w.heap.size w W
theorem eT {w:World}{e:TypeId}{sz:Nat}{v:Value}{rs:List (List Value)}(h:cM w e sz v rs):∃a n c,v=Value.slice a n c:=by
 obtain⟨a,c,e,_⟩:=h.shape;exact⟨a,_,c,e⟩
theorem aHk (l:List Nat):lnX l=lbX (aF l):=rfl
theorem aJ7 (l:List Nat):lnE l=lbE (aF l):=rfl
theorem aJ8 (l:List Nat):lnI l=lbI (aF l):=rfl

theorem aFD (v:Value)(l0:List Nat)(w:World)(hB:Bytes w v l0) :
  Calls Tryz.prog 24 #[v] w fun e w'=>∃lv el,e = .returned (.tuple #[.int .u64 (cZ l0).f,lv,.int .i64 (cZ l0).g])/\cM w' 38 3 lv (aN el)/\el.map (·.1)=(cZ l0).es/\cA w' (fun k=>k<w.heap.size) el/\(∀k,lv.ownBlock=some k->w.heap.size<=k)/\Below w.heap.size w w':=by
 have HB:=hid hB;obtain⟨a,c,rfl,_⟩:=hB.shape;clear hB;refine(callsIn_wide (n:=6)).1 ?_;refine callsIn_of_wp_marks Tryz.func24 rfl trivial ?_ rfl;simp only[Tryz.ntmps24,List.size_toArray,List.length_cons,List.length_nil,Nat.reduceAdd,Nat.reduceSub,Array.replicate_succ,Array.replicate_zero,List.push_toArray,List.append_toArray,List.nil_append,List.cons_append]
 gi_wp2_with fail
 refine wpIn_wide.2 (wp_scope_straight ((wpIn_wide (n:=6)).1 ?_));refine wpIn_seq ?_;refine wpIn_label ?_
 gi_wp2_with fail
 refine⟨trivial,?_⟩;refine((callsIn_wide (n:=5)).2 (aB5 _ _ _ _)).mono ?_;rintro e w1 ⟨rfl,rfl⟩
 gi_wp2_with fail
 generalize hwL:World.alloc (World.alloc (World.alloc (World.alloc w _) _) _) _=wL;have BL:Hid (Below w.heap.size w wL):=hid (by subst hwL;exact((((Below.refl _ _).alloc (Nat.le_refl _) _).alloc (by simp) _).alloc (by simp;omega) _).alloc (by simp;omega) _);have LL:Hid (wL.heap.size=w.heap.size+4):=hid (by subst hwL;simp);have CB:Hid (wL.cell? ⟨w.heap.size+1+1+1,0,none⟩=some (.slice a l0.length c)):=hid (by subst hwL;go_cell);have C0:Hid (RC wL w.heap.size 0 0 (.slice none 0 0)):=hid (by
  have hb0:wL.heap[w.heap.size]? = some (.cells #[.int .u64 0] 22 (0,0)):=by subst hwL;exact gY (gY (gY (heap_alloc_new w _) _) _) _
  have hb1:wL.heap[w.heap.size+1]? = some (.cells #[.slice none 0 0] 23 (0,0)):=by subst hwL;exact gY (gY (aBe (w:=w.alloc _) (by simp) _) _) _
  have hb2:wL.heap[w.heap.size+2]? = some (.cells #[.int .i64 0] 3 (0,0)):=by subst hwL;exact gY (aBe (w:=(w.alloc _).alloc _) (by simp) _) _
  refine⟨by simp[World.cell?,hb0],by simp[World.cell?,hb1],by simp[World.cell?,hb2],by simp[World.frozen?,hb0],by simp[World.frozen?,hb1],by simp[World.frozen?,hb2],fun k hk j x hx=>?_,fun k hk j x hx=>?_,fun k hk j x hx=>?_⟩
  ·subst hk;simp only[World.cell?,hb0]at hx;rcases j with _|j<;>simp at hx
  ·subst hk;simp only[World.cell?,hb1]at hx;rcases j with _|j<;>simp at hx
  ·subst hk;simp only[World.cell?,hb2]at hx;rcases j with _|j<;>simp at hx)
 clear hwL;obtain⟨S0,hS0⟩:∃S0:Nat->Prop,S0=fun k=>(k=w.heap.size\/k=w.heap.size+1\/k=w.heap.size+2)\/w.heap.size+6<=k:=⟨_,rfl⟩;have HS0:Hid (∀k,S0 k ↔ ((k=w.heap.size\/k=w.heap.size+1\/k=w.heap.size+2)\/w.heap.size+6<=k)):=hid (by intro k;rw[hS0]);clear hS0;obtain⟨rb,hrb⟩:∃rb,(l0 = []\/(Value.slice a l0.length c).ownBlock=some rb)/\rb<wL.heap.size /\ ¬S0 rb:=by
  by_cases he:l0 = []
  ·exact⟨w.heap.size+3,.inl he,by rw[LL.out];omega,fun h=>by have:=(HS0.out _).1 h;omega⟩
  ·obtain⟨b,h1,h2⟩:=HB.out.hU he;exact⟨b,.inr h1,by rw[LL.out];omega,fun h=>by have:=(HS0.out _).1 h;omega⟩
 refine zE (by decide) (gf:=129) (lb:=#[.pointer (some ⟨w.heap.size+1+1+1,0,none⟩)]) rfl (enters_of Tryz.func129 (by kernel_rfl) rfl)
  (each_seq 5 (by decide) (w.heap.size+1+1+1) rb (.slice a l0.length c) l0 wL CB.out (HB.out.below (BL.out.mono (Nat.le_refl _))) hrb.1 hrb.2.1 S0 hrb.2.2)
  (fun k h=>by have:=(HS0.out _).1 h;rw[LL.out];omega) (fun γ xs W h=>by obtain⟨_,v,rfl,_⟩:=h;rfl) (fun γ xs A B h hr hk=>h.kept hr hk)
  (aJt w l0) (fun c W=>c = .exit 0/\aKA w l0 W)
  ?hI ?hIx ?h0
  (fun xs=>{ tmps:=#[.slice a l0.length c,undef,.pointer (some ⟨w.heap.size,0,none⟩),.pointer (some ⟨w.heap.size+1,0,none⟩),.pointer (some ⟨w.heap.size+1+1,0,none⟩),xs.getD 0 undef,xs.getD 1 undef,undef,undef,.slice a l0.length c,.func (.func 129) #[] #[.pointer (some ⟨w.heap.size+1+1+1,0,none⟩)],xs.getD 0 undef,xs.getD 1 undef,undef,undef,undef,undef,undef,undef,undef,undef,undef,undef,undef,undef,undef,undef,undef,undef,undef,undef,undef,undef,undef,undef,undef,undef,undef,undef,undef,undef,undef,undef,undef,undef],defers:=[] }) ?assign ?body ?done ?stop
 case h0=>exact⟨l0.length,⟨0,[],0⟩,.slice none 0 0,[],Nat.le_refl _,rfl,⟨C0.out,rfl,cM.nil _ _ _,nofun,nofun⟩,BL.out,by simp,by simp,by simp⟩
 case hI =>
  rintro γ A B ⟨n,s,lv,el,h1,h2,h3,h4,h5,h6,h7⟩ hk;have hS:∀k,wB wL k->k=w.heap.size+4\/k=w.heap.size+5:=fun k e=>by rcases e with e|e<;>(rw[LL.out]at e;omega)
  exact⟨n,s,lv,el,h1,h2,h3.kept hk (by omega) (fun e=>by have:=hS _ e;omega) (fun e=>by have:=hS _ e;omega) (fun e=>by have:=hS _ e;omega) (fun k e=>by have:=hS _ e;omega),h4.trans (hk.below h4.size fun k e=>by have:=hS _ e;omega),h5,h6,h7⟩
 case hIx =>
  rintro c A B ⟨h0,lv,el,h3,h4⟩ hk;have hS:∀k,wB wL k->k=w.heap.size+4\/k=w.heap.size+5:=fun k e=>by rcases e with e|e<;>(rw[LL.out]at e;omega)
  exact⟨h0,lv,el,h3.kept hk (by omega) (fun e=>by have:=hS _ e;omega) (fun e=>by have:=hS _ e;omega) (fun e=>by have:=hS _ e;omega) (fun k e=>by have:=hS _ e;omega),h4.trans (hk.below h4.size fun k e=>by have:=hS _ e;omega)⟩
 case assign =>
  rintro l γ xs W K ⟨_,v',rfl,_⟩ hK
  gi_wp2_with fail
  exact hK
 case body =>
  rintro l γ xs W ⟨n,s,lv,el,hn,hs,hrd,hbw,hg,hes,hf⟩ ⟨ht,v',rfl,hB'⟩ hlt;have HN:=hid hn;have HS:=hid hs;have HRD:=hid hrd;have HBW:=hid hbw;have HBG:=hid hg;have HES:=hid hes;have HF:=hid hf;have HT:=hid ht;have HLT:Hid (w.heap.size+6<=W.heap.size):=hid (by rw[LL.out]at hlt;omega);obtain⟨kd,hkd⟩:∃k,γ.getD 1 0=k:=⟨_,rfl⟩;have HKD:=hid hkd;rw[hkd];obtain⟨rv,hrv⟩:∃rv,(aF γ = []\/v'.ownBlock=some rv)/\rv<W.heap.size:=by
   by_cases he:aF γ = []
   ·exact⟨0,.inl he,by have:=HLT.out;omega⟩
   ·obtain⟨b,h1,h2⟩:=hB'.hU he;exact⟨b,.inr h1,by omega⟩
  obtain⟨av,mv,cv,rfl⟩:∃a n c,v'=Value.slice a n c:=by obtain⟨a,c,e,_⟩:=hB'.shape;exact⟨a,_,c,e⟩
  have HB2:=hid hB';have HRV:=hid hrv;have HMV:Hid (mv=(aF γ).length):=hid HB2.out.cells.1;obtain⟨f,hff⟩:∃f,s.f=f:=⟨_,rfl⟩;have HFF:=hid hff;obtain⟨g,hgg⟩:∃g,s.g=g:=⟨_,rfl⟩;have HGG:=hid hgg;have hgs:(g:Int)+(mv:Int)+8<=2097152:=by
   have h1:=HBG.out;have h2:=(fW HT.out).2.2;have h3:=HB.out.small;have h4:=HMV.out;omega
  obtain⟨la,lm,lc,rfl⟩:∃a n c,lv=Value.slice a n c:=by obtain⟨a,c,e,_⟩:=hrd.own.shape;exact⟨a,_,c,e⟩
  have HLM:Hid (lm=s.es.length):=hid (by
   obtain⟨a,c,e,_⟩:=hrd.own.shape;cases e;rw[aO,<- hrd.es,List.length_map])
  clear hn hs hrd hbw hg hes hf ht hkd hB' hrv hff hgg;obtain⟨c0,c1,c2,f0,f1,f2,_,_,_⟩:=HRD.out.rc;rw[HFF.out]at c0;rw[HGG.out]at c2;have KB:Hid (∀W',Below W.heap.size W W'->Kept W W' S0):=hid fun W' hb=>Kept.aL hb fun k h1 h2=>by omega
  by_cases hf0:f=0
  ·have bf0:((f:Int)==0)=true:=by rw[hf0];rfl
   have HF0:=hid hf0;clear hf0;obtain⟨h,hh⟩:∃h:Nat,(if kd=1/\gV (cI H60 (aF γ)) (cF H60 (aF γ))=0 then bO H60 (aF γ) else 0)=h:=⟨_,rfl⟩;have HH:=hid hh
   gi_wp2_with fail
   refine⟨trivial,?_⟩;refine(CallsIn.inRound l ((callsIn_wide (n:=3)).2 (aIG kd _ _ rv W HB2.out HRV.out.1 HRV.out.2))).mono ?_;rintro e w1 ⟨rfl,hb1⟩;rw[hh];have B1:=hid hb1;have R1:=hid (HRD.out.below hb1);have z0:=R1.out.rc.c0;have g0:=R1.out.rc.f0;clear hb1 hh c0 c1 c2 f0 f1 f2;have R2:=hid (R1.out.sJ (by omega) h);have K2:Hid (Kept W (w1.setCell ⟨w.heap.size,0,none⟩ (.int .u64 (h:Nat))) S0):=hid ((KB.out _ B1.out).trans ((Kept.setCell _ _ _).mono fun k _ e=>(HS0.out k).2 (.inl (.inl e))));have BW2:Hid (Below w.heap.size w (w1.setCell ⟨w.heap.size,0,none⟩ (.int .u64 (h:Nat)))):=hid (HBW.out.trans (K2.out.below HBW.out.size fun k e=>by have:=(HS0.out k).1 e;omega));obtain⟨x0,x1,x2,y0,y1,y2,_,_,_⟩:=R2.out.rc;rw[HGG.out]at x2;by_cases hh0:h=0
   ·have bh:((h:Int)==0)=true:=by rw[hh0];rfl
    have HH0:=hid hh0;have HNG:Hid (¬tH γ):=hid (fun hg=>by
     have h1:=HH.out;rw[if_pos ⟨by rw[<- HKD.out];exact hg.2.1,hg.2.2.1⟩]at h1;exact hg.2.2.2 (h1.trans HH0.out))
    clear hh0
    gi_wp2_with fail
    refine⟨K2.out,rfl,.slice la lm lc,el,?_,BW2.out⟩;have e:cZ l0=⟨h,s.es,s.g⟩:=by
     rw[HS.out,jF (fun _=>HNG.out) (fun hne=>absurd (HFF.out.trans HF0.out) hne)];obtain⟨sf,ses,sg⟩:=s;simp only at HFF ⊢;rw[HFF.out,HF0.out,HH0.out]
    rw[e];exact R2.out
   ·have bh:((h:Int)==0)=false:=by simp;omega
    have HGO:Hid (tH γ/\h=hdV γ):=hid (by
     have h1:=HH.out;by_cases hc:kd=1/\gV (cI H60 (aF γ)) (cF H60 (aF γ))=0
     ·rw[if_pos hc]at h1;exact⟨⟨HT.out,by rw[HKD.out];exact hc.1,hc.2,fun e=>hh0 (h1.symm.trans e)⟩,h1.symm⟩
     ·rw[if_neg hc]at h1;exact absurd h1.symm hh0)
    have e1:IntKind.i64.wrap ((mv:Int)+8)=(mv:Int)+8:=by simp only[IntKind.wrap_i64];omega
    have e2:IntKind.i64.wrap ((g:Int)+((mv:Int)+8))=(g:Int)+((mv:Int)+8):=by simp only[IntKind.wrap_i64];omega
    clear hh0;have R3:=hid (R2.out.iO (by omega) (g+(mv+8)));have FIN:Hid (Kept W ((w1.setCell ⟨w.heap.size,0,none⟩ (.int .u64 (h:Nat))).setCell ⟨w.heap.size+2,0,none⟩ (.int .i64 ((g:Int)+((mv:Int)+8)))) S0/\aJt w l0 (mT γ) ((w1.setCell ⟨w.heap.size,0,none⟩ (.int .u64 (h:Nat))).setCell ⟨w.heap.size+2,0,none⟩ (.int .i64 ((g:Int)+((mv:Int)+8))))):=hid (by
     have hk:Kept W ((w1.setCell ⟨w.heap.size,0,none⟩ (.int .u64 (h:Nat))).setCell ⟨w.heap.size+2,0,none⟩ (.int .i64 ((g:Int)+((mv:Int)+8)))) S0:=K2.out.trans ((Kept.setCell _ _ _).mono fun k _ e=>(HS0.out k).2 (.inl (.inr (.inr e))));obtain⟨q1,q2,q3⟩:=fW HT.out;have h1:=HBG.out;have h2:=HMV.out;have h3:=HES.out;have h4:=HGG.out;have h5:=HN.out;obtain⟨m,hm⟩:∃m,n=m+1:=⟨n-1,by omega⟩;have hsf:s.f=0:=HFF.out.trans HF0.out;refine⟨hk,m,⟨hdV γ,s.es,s.g+(aF γ).length+8⟩,.slice la lm lc,el,by omega,?_,?_,HBW.out.trans (hk.below HBW.out.size fun k e=>by have:=(HS0.out k).1 e;omega),by simp only;omega,by simp only;omega,fU H60 _⟩
     ·rw[HS.out,hm];exact tS hsf HGO.out.1 m
     ·have h:=R3.out;rw[show s.g+(aF γ).length+8=g+(mv+8) by omega,<- HGO.out.2];exact h)
    gi_wp2_with fail
    exact FIN.out
  ·have bf0:((f:Int)==0)=false:=by simp;omega
   have HF0:=hid hf0;clear hf0;obtain⟨ix,hix⟩:∃ix:Nat,f+lm=ix:=⟨_,rfl⟩;have HIX:Hid (s.f+s.es.length=ix):=hid (by rw[HFF.out,<- HLM.out];exact hix);have hixi:(f:Int)+(lm:Int)=(ix:Int):=by omega
   have hf60:(f:Int)<=1152921504606846976:=by have:=HF.out;have:=HFF.out;omega
   have hlm:(lm:Int)<=2097152:=by have:=HLM.out;have:=HES.out;have:=HGG.out;omega
   have ew:IntKind.u64.wrap (lm:Int)=(lm:Int):=by rw[wrap_u64];omega
   have ew2:IntKind.u64.wrap (ix:Int)=(ix:Int):=by rw[wrap_u64];omega
   clear hf60 hix
   gi_wp2_with fail
   refine⟨trivial,?_⟩;refine(CallsIn.inRound l ((callsIn_wide (n:=3)).2 (aIH kd ix _ _ rv W HB2.out HRV.out.1 HRV.out.2))).mono ?_;rintro e w1 ⟨dv,rfl,hBd,hod,hb1⟩;obtain⟨da,dn,dc,rfl⟩:∃a n c,dv=Value.slice a n c:=by obtain⟨a,c,e,_⟩:=hBd.shape;exact⟨a,_,c,e⟩
   have B1:=hid hb1;have HBD:=hid hBd;have HOD:=hid hod;have R1:=hid (HRD.out.below hb1);obtain⟨ok,hok⟩:∃b:Bool,decide (kd=2/\lbE (aF γ)=0/\lbI (aF γ)=ix/\(lbX (aF γ)).ok)=b:=⟨_,rfl⟩;have HOK:Hid (zP (s.f+s.es.length) γ ↔ ok=true):=hid (by
    rw[<- hok,decide_eq_true_iff];unfold zP;rw[HKD.out,HIX.out,aJ7,aJ8,aHk];exact⟨fun h=>h.2,fun h=>⟨HT.out,h⟩⟩)
   obtain⟨t,ht⟩:∃t,(lbX (aF γ)).t=t:=⟨_,rfl⟩;obtain⟨k,hk⟩:∃k,(lbX (aF γ)).k=k:=⟨_,rfl⟩;have HTT:=hid ht;have HKK:=hid hk;rw[hok,ht,hk];clear hBd hod hb1 hok ht hk c0 c1 c2 f0 f1 f2;cases ok with
   | false =>
    have HNG:Hid (¬zP (s.f+s.es.length) γ):=hid (fun h=>by have:=HOK.out.1 h;cases this)
    gi_wp2_with fail
    generalize hw2:World.alloc w1 _=w2;have B2:Below W.heap.size W w2:=by subst hw2;exact B1.out.trans ((Below.refl _ _).alloc B1.out.size _)
    refine⟨KB.out _ B2,rfl,.slice la lm lc,el,?_,HBW.out.trans (B2.mono HBW.out.size)⟩;rw[HS.out,jF (fun hne=>absurd (HFF.out.symm.trans hne) HF0.out) (fun _=>HNG.out)];exact HRD.out.below B2
   | true =>
    have HGO:Hid (zP (s.f+s.es.length) γ):=hid (HOK.out.2 rfl);have hokx:(lbX (aF γ)).ok:=by have:=HGO.out.2.2.2.2;rw[aHk]at this;exact this
    have HFIT:=hid hokx.fits;clear hokx;have LIT:Hid (∀A:World,Below W.heap.size W A->w.heap.size+6<=A.heap.size->Bytes A (.slice da dn dc) (lbX (aF γ)).d->RdS A w.heap.size (w.heap.size+6) s (.slice la lm lc) el->bJ (A.alloc (.cells #[.int .u64 t,.int .i64 k,.slice da dn dc] 38)) 3 (.slice (some ⟨A.heap.size,0,none⟩) 1 1) [eP (lbX (aF γ),.slice da dn dc)]/\RdS (A.alloc (.cells #[.int .u64 t,.int .i64 k,.slice da dn dc] 38)) w.heap.size (w.heap.size+6) s (.slice la lm lc) el):=hid (by
     intro A _ _ _ hr;refine⟨⟨_,_,rfl,Nat.le_refl _,fun j hj=>?_⟩,hr.below ((Below.refl _ _).alloc (Nat.le_refl _) _)⟩;obtain rfl:j=0:=by simpa using hj
     refine⟨A.heap.size,0,rfl,by simp,fun i x hx=>?_⟩;have hx':(eP (lbX (aF γ),Value.slice da dn dc))[i]? = some x:=hx;unfold eP at hx';rw[HTT.out,HKK.out]at hx'
     match i,hx' with
     | 0,e=>obtain rfl:=Option.some.inj e;go_cell
     | 1,e=>obtain rfl:=Option.some.inj e;go_cell
     | 2,e=>obtain rfl:=Option.some.inj e;go_cell)
    have DNB:Hid (∀b,(Value.slice da dn dc).ownBlock=some b->w.heap.size+6<=b):=hid fun b hb=>Nat.le_trans HLT.out (HOD.out b hb);have HL32:Hid ((aN el).length + [eP (lbX (aF γ),Value.slice da dn dc)].length<=4294967296):=hid (by
     have h1:=HRD.out.es;have h2:el.length=s.es.length:=by rw[<- h1,List.length_map]
     have:=HLM.out;rw[aO,h2];simp only[List.length_cons,List.length_nil];omega)
    have H1C:Hid (∀r ∈ [eP (lbX (aF γ),Value.slice da dn dc)],∀u ∈ r,u.oneCell'=true):=hid (by
     intro r hr u hu;obtain rfl:=List.mem_singleton.1 hr;simp only[eP,List.mem_cons,List.not_mem_nil,or_false]at hu;rcases hu with rfl|rfl|rfl<;>rfl)
    have HN8:Hid (No8 [eP (lbX (aF γ),Value.slice da dn dc)].flatten):=hid (by
     intro x hx;simp[eP]at hx)
    have A2:Hid (RdS ((w1.alloc (.cells #[.int .u64 t,.int .i64 k,.slice da dn dc] 38)).alloc (.cells #[.int .u64 t,.int .i64 k,.slice da dn dc] 38)) w.heap.size (w.heap.size+6) s (.slice la lm lc) el /\
     bJ ((w1.alloc (.cells #[.int .u64 t,.int .i64 k,.slice da dn dc] 38)).alloc (.cells #[.int .u64 t,.int .i64 k,.slice da dn dc] 38)) 3 (.slice (some ⟨w1.heap.size+1,0,none⟩) 1 1) [eP (lbX (aF γ),.slice da dn dc)] /\
     Bytes ((w1.alloc (.cells #[.int .u64 t,.int .i64 k,.slice da dn dc] 38)).alloc (.cells #[.int .u64 t,.int .i64 k,.slice da dn dc] 38)) (.slice da dn dc) (lbX (aF γ)).d /\
     Below W.heap.size W ((w1.alloc (.cells #[.int .u64 t,.int .i64 k,.slice da dn dc] 38)).alloc (.cells #[.int .u64 t,.int .i64 k,.slice da dn dc] 38))):=hid (by
     have hb2:=(B1.out.alloc B1.out.size (.cells #[.int .u64 t,.int .i64 k,.slice da dn dc] 38));have hsz:=B1.out.size;have h6:=HLT.out;have hd2:=HBD.out.below ((Below.refl w1.heap.size w1).alloc (Nat.le_refl _) (.cells #[.int .u64 t,.int .i64 k,.slice da dn dc] 38));have hr2:=R1.out.below ((Below.refl w1.heap.size w1).alloc (Nat.le_refl _) (.cells #[.int .u64 t,.int .i64 k,.slice da dn dc] 38));obtain⟨q1,q2⟩:=LIT.out _ hb2 (by simp;omega) hd2 hr2;refine⟨q2,by simpa using q1,hd2.below ((Below.refl _ _).alloc (Nat.le_refl _) _),hb2.alloc (by simp;omega) _⟩)
    obtain⟨x0,x1,x2,y0,y1,y2,_,_,_⟩:=R1.out.rc;have hsz:w.heap.size+6<=w1.heap.size:=Nat.le_trans HLT.out B1.out.size;have hsz1:w.heap.size+1<w1.heap.size:=by omega
    have e1:IntKind.i64.wrap ((mv:Int)+8)=(mv:Int)+8:=by simp only[IntKind.wrap_i64];omega
    have e2:IntKind.i64.wrap ((g:Int)+((mv:Int)+8))=(g:Int)+((mv:Int)+8):=by simp only[IntKind.wrap_i64];omega
    clear LIT
    gi_wp2_with (gi_at_builtin;go_loud (refine pK nK _ _ rfl rfl (.slice la lm lc) (.slice (some ⟨w1.heap.size+1,0,none⟩) 1 1) (aN el) [eP (lbX (aF γ),.slice da dn dc)] rfl rfl A2.out.1.own A2.out.2.1 (by intro r hr;obtain rfl:=List.mem_singleton.1 hr;rfl) H1C.out HN8.out wQ HL32.out ?_;intro v2 w2 ho2 hg2 ha2;obtain⟨a2,n2,c2,rfl⟩:=eT ho2;obtain⟨p1,p2⟩:=A2.out.1.push (p:=(lbX (aF γ),.slice da dn dc)) (by omega) (by rw[World.size_alloc,World.size_alloc];omega) hg2 ho2 ha2 A2.out.2.2.1 HFIT.out DNB.out;obtain⟨_,z1,z2,_,g1,g2,_,_,_⟩:=p1;rw[HGG.out]at z2;have P2:=hid p2;have K2:=hid (Kept.cJ hg2);clear ho2 hg2 ha2 p2))
    have R3:=hid (P2.out.iO (by omega) (g+(mv+8)));have KF:Kept W ((w2.setCell ⟨w.heap.size+1,0,none⟩ (.slice a2 n2 c2)).setCell ⟨w.heap.size+2,0,none⟩ (.int .i64 ((g:Int)+((mv:Int)+8)))) S0:=by
     refine((KB.out _ A2.out.2.2.2).trans (K2.out.mono fun k _ e=>(HS0.out k).2 (.inr (A2.out.1.at' k e)))).trans ?_;exact((Kept.setCell _ _ _).mono fun k _ e=>(HS0.out k).2 (.inl (.inr (.inl e)))).trans ((Kept.setCell _ _ _).mono fun k _ e=>(HS0.out k).2 (.inl (.inr (.inr e))))
    obtain⟨q1,q2,q3⟩:=fW HT.out;have h1:=HBG.out;have h2:=HMV.out;have h3:=HES.out;have h4:=HGG.out;have h5:=HN.out;obtain⟨m,hm⟩:∃m,n=m+1:=⟨n-1,by omega⟩;refine⟨KF,m,⟨s.f,s.es ++ [lnX γ],s.g+(aF γ).length+8⟩,.slice a2 n2 c2,el ++ [(lbX (aF γ),.slice da dn dc)],by omega,?_,?_,HBW.out.trans (KF.below HBW.out.size fun k e=>by have:=(HS0.out k).1 e;omega),by simp only;omega,by simp only[List.length_append,List.length_cons,List.length_nil];omega,HF.out⟩
    ·rw[HS.out,hm];exact tT (fun e=>HF0.out (HFF.out.symm.trans e)) HGO.out m
    ·have h:=R3.out;rw[show s.g+(aF γ).length+8=g+(mv+8) by omega];exact h
 case done =>
  rintro γ W hfin ⟨n,s,lv,el,hn,hs,hrd,hbw,hg,hes,hf60⟩ hD;have HR:cZ l0=s:=by rw[hs,aAN hfin]
  rw[<- HR]at hrd;have HRD:=hid hrd;have HBW:=hid hbw;have HD:=hid hD;clear hn hs hrd hbw hg hes hf60 hD hfin HR;obtain⟨la,lm,lc,rfl⟩:=eT HRD.out.own;obtain⟨f,hff⟩:∃f,(cZ l0).f=f:=⟨_,rfl⟩;obtain⟨g,hgg⟩:∃g,(cZ l0).g=g:=⟨_,rfl⟩;have HFF:=hid hff;have HGG:=hid hgg;obtain⟨s0,s1,s2,g0,g1,g2,_,_,_⟩:=HRD.out.rc;rw[hff]at s0;rw[hgg]at s2;have hmo:Tryz.prog.follows .mixedOrders=true:=by kernel_rfl
  have W2:Hid (RdS (((W.setCell ⟨w.heap.size,0,none⟩ (.int .u64 (f:Nat))).setCell ⟨w.heap.size+1,0,none⟩ (.slice la lm lc)).setCell ⟨w.heap.size+2,0,none⟩ (.int .i64 (g:Nat))).drew w.heap.size (w.heap.size+6) (cZ l0) (.slice la lm lc) el):=hid (by
   have h1:=HRD.out.sJ (by omega) f;have h2:=h1.aJG (by omega);have h3:=h2.iO (by omega) g;have e:(⟨f,(cZ l0).es,g⟩:nI)=cZ l0:=by rw[<- hff,<- hgg]
   have h4:RdS _ w.heap.size (w.heap.size+6) ⟨f,(cZ l0).es,g⟩ (.slice la lm lc) el:=h3;rw[e]at h4;exact h4.below ((Below.refl _ _).drew))
  have H2:Hid ((((W.setCell ⟨w.heap.size,0,none⟩ (.int .u64 (f:Nat))).setCell ⟨w.heap.size+1,0,none⟩ (.slice la lm lc)).setCell ⟨w.heap.size+2,0,none⟩ (.int .i64 (g:Nat))).drew.heap[wL.heap.size]? = some (.deferred (some []))):=hid (by
   have l:=LL.out;refine(Below.heap_setCell _ ⟨w.heap.size+2,0,none⟩ _ wL.heap.size (by show wL.heap.size≠w.heap.size+2;omega)).trans ?_;refine(Below.heap_setCell _ ⟨w.heap.size+1,0,none⟩ _ wL.heap.size (by show wL.heap.size≠w.heap.size+1;omega)).trans ?_;exact(Below.heap_setCell _ ⟨w.heap.size,0,none⟩ _ wL.heap.size (by show wL.heap.size≠w.heap.size;omega)).trans HD.out)
  have B2:Hid (Below w.heap.size w (((W.setCell ⟨w.heap.size,0,none⟩ (.int .u64 (f:Nat))).setCell ⟨w.heap.size+1,0,none⟩ (.slice la lm lc)).setCell ⟨w.heap.size+2,0,none⟩ (.int .i64 (g:Nat))).drew):=hid (((HBW.out.setCell (Nat.le_refl _) _).setCell (Nat.le_succ _) _).setCell (show w.heap.size<=w.heap.size+2 by omega) _).drew;clear hff hgg
  gi_wp2_with fail
  gi_region_with_o (fail)
  all_goals
   gi_wp2_with fail
   generalize (((W.setCell ⟨w.heap.size,0,none⟩ (.int .u64 (f:Nat))).setCell ⟨w.heap.size+1,0,none⟩ (.slice la lm lc)).setCell ⟨w.heap.size+2,0,none⟩ (.int .i64 (g:Nat))).drew=W2w at *
   refine⟨by simp,.inl ⟨_,_,rfl,run_takeDeferred H2.out,?_⟩⟩;have kp:Kept W2w (W2w.putObj wL.heap.size (.deferred none)) (fun k=>k=wL.heap.size):=Kept.putObj _ _ _;have l:=LL.out;have w3:=W2.out.kept kp (by omega) (by omega) (by omega) (by omega) (fun k e=>by omega);have b3:=B2.out.trans (kp.below B2.out.size (fun k h=>by omega));generalize W2w.putObj wL.heap.size (.deferred none)=W3w at *
   have r0:=w3.rc.c0;have r1:=w3.rc.c1;have r2:=w3.rc.c2;refine⟨_,?_,.slice la lm lc,el,rfl,w3.own,w3.es,fun p hp=>⟨(w3.dat p hp).1,(w3.dat p hp).2.1,fun b hb hs=>(w3.dat p hp).2.2 b hb (by omega)⟩,fun k hk=>by have:=w3.at' k hk;omega,b3⟩;simp[results,Tryz.results24,go_sem,r0,r1,r2]
 case stop =>
  rintro c0 W ⟨rfl,lv,el,hrd,hbw⟩ hD;have HRD:=hid hrd;have HBW:=hid hbw;have HD:=hid hD;clear hrd hbw hD;obtain⟨la,lm,lc,rfl⟩:=eT HRD.out.own;obtain⟨f,hff⟩:∃f,(cZ l0).f=f:=⟨_,rfl⟩;obtain⟨g,hgg⟩:∃g,(cZ l0).g=g:=⟨_,rfl⟩;have HFF:=hid hff;have HGG:=hid hgg;obtain⟨s0,s1,s2,g0,g1,g2,_,_,_⟩:=HRD.out.rc;rw[hff]at s0;rw[hgg]at s2;have hmo:Tryz.prog.follows .mixedOrders=true:=by kernel_rfl
  have W2:Hid (RdS (((W.setCell ⟨w.heap.size,0,none⟩ (.int .u64 (f:Nat))).setCell ⟨w.heap.size+1,0,none⟩ (.slice la lm lc)).setCell ⟨w.heap.size+2,0,none⟩ (.int .i64 (g:Nat))).drew w.heap.size (w.heap.size+6) (cZ l0) (.slice la lm lc) el):=hid (by
   have h1:=HRD.out.sJ (by omega) f;have h2:=h1.aJG (by omega);have h3:=h2.iO (by omega) g;have e:(⟨f,(cZ l0).es,g⟩:nI)=cZ l0:=by rw[<- hff,<- hgg]
   have h4:RdS _ w.heap.size (w.heap.size+6) ⟨f,(cZ l0).es,g⟩ (.slice la lm lc) el:=h3;rw[e]at h4;exact h4.below ((Below.refl _ _).drew))
  have H2:Hid ((((W.setCell ⟨w.heap.size,0,none⟩ (.int .u64 (f:Nat))).setCell ⟨w.heap.size+1,0,none⟩ (.slice la lm lc)).setCell ⟨w.heap.size+2,0,none⟩ (.int .i64 (g:Nat))).drew.heap[wL.heap.size]? = some (.deferred (some []))):=hid (by
   have l:=LL.out;refine(Below.heap_setCell _ ⟨w.heap.size+2,0,none⟩ _ wL.heap.size (by show wL.heap.size≠w.heap.size+2;omega)).trans ?_;refine(Below.heap_setCell _ ⟨w.heap.size+1,0,none⟩ _ wL.heap.size (by show wL.heap.size≠w.heap.size+1;omega)).trans ?_;exact(Below.heap_setCell _ ⟨w.heap.size,0,none⟩ _ wL.heap.size (by show wL.heap.size≠w.heap.size;omega)).trans HD.out)
  have B2:Hid (Below w.heap.size w (((W.setCell ⟨w.heap.size,0,none⟩ (.int .u64 (f:Nat))).setCell ⟨w.heap.size+1,0,none⟩ (.slice la lm lc)).setCell ⟨w.heap.size+2,0,none⟩ (.int .i64 (g:Nat))).drew):=hid (((HBW.out.setCell (Nat.le_refl _) _).setCell (Nat.le_succ _) _).setCell (show w.heap.size<=w.heap.size+2 by omega) _).drew;clear hff hgg
  gi_wp2_with fail
  gi_region_with_o (fail)
  all_goals
   gi_wp2_with fail
   generalize (((W.setCell ⟨w.heap.size,0,none⟩ (.int .u64 (f:Nat))).setCell ⟨w.heap.size+1,0,none⟩ (.slice la lm lc)).setCell ⟨w.heap.size+2,0,none⟩ (.int .i64 (g:Nat))).drew=W2w at *
   refine⟨by simp,.inl ⟨_,_,rfl,run_takeDeferred H2.out,?_⟩⟩;have kp:Kept W2w (W2w.putObj wL.heap.size (.deferred none)) (fun k=>k=wL.heap.size):=Kept.putObj _ _ _;have l:=LL.out;have w3:=W2.out.kept kp (by omega) (by omega) (by omega) (by omega) (fun k e=>by omega);have b3:=B2.out.trans (kp.below B2.out.size (fun k h=>by omega));generalize W2w.putObj wL.heap.size (.deferred none)=W3w at *
   have r0:=w3.rc.c0;have r1:=w3.rc.c1;have r2:=w3.rc.c2;refine⟨_,?_,.slice la lm lc,el,rfl,w3.own,w3.es,fun p hp=>⟨(w3.dat p hp).1,(w3.dat p hp).2.1,fun b hb hs=>(w3.dat p hp).2.2 b hb (by omega)⟩,fun k hk=>by have:=w3.at' k hk;omega,b3⟩;simp[results,Tryz.results24,go_sem,r0,r1,r2]
