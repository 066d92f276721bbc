/- For vltopens_law_holds. -/
import Derived.Test.YtjdglpcnkiioeaaGreatVob26
import Derived.Test.YtjdglpcnkiioeaaGreatVob16
set_option maxHeartbeats 16000000
set_option maxRecDepth 100000
namespace Go.Proofs.YtjdglpcnkiioeaaGreat
open Go.Lib (hid)
open Go.RowKit Go.Maps Go.Proofs.Own Go.Shelf
attribute [local go_sem] Oper.semAt_some

def vT (l:List Nat):Nat:=bO H60 (aF l)
def vV (l:List Nat):Nat:=bO 7 (cI H60 (aF l))
def vE (l:List Nat):Nat:=gV (cI 7 (cI H60 (aF l))) (cF H60 (aF l) || cF 7 (cI H60 (aF l)))
def vGo (l:List Nat):Prop:=cS l=0/\l.getD 1 0=3/\vE l=0
instance (l:List Nat):Decidable (vGo l):=inferInstanceAs (Decidable (_/\_))
structure lN where
 t:Int
 v:Int
 g:Nat
def lastF:Nat->List Nat->lN->lN
 | 0,_,s=>s
 | n+1,l,s=>if vGo l then lastF n (mT l) ⟨vT l,(vV l:Int)-1,s.g+(aF l).length+8⟩ else s
def eF (l:List Nat):lN:=lastF l.length l ⟨0,-1,0⟩
theorem mU {l:List Nat}(h:¬vGo l)(n:Nat)(s:lN):lastF n l s=s:=by
 cases n with
 | zero=>rfl
 | succ n=>unfold lastF;rw[if_neg h]
theorem aCi {l:List Nat}(h:vGo l)(n:Nat)(s:lN):lastF (n+1) l s=lastF n (mT l) ⟨vT l,(vV l:Int)-1,s.g+(aF l).length+8⟩:=if_pos h
theorem fW {l:List Nat}(h:cS l=0):(mT l).length+8<=l.length/\(aF l).length+8<=l.length/\(mT l).length+((aF l).length+8)=l.length:=by
 have hs:cP l=0:=by
  false_or_by_contra
  rename_i h2;unfold cS at h;rw[if_pos h2]at h;exact h2 h
 have h1:=iM hs;have h2:=fE hs;unfold mT;rw[List.length_drop,h2];omega

structure LSC (W:World)(b:Nat)(s:lN):Prop where
 c0:W.cell? ⟨b,0,none⟩=some (.int .u64 s.t)
 c1:W.cell? ⟨b,1,none⟩=some (.int .i64 s.v)
 c2:W.cell? ⟨b+1,0,none⟩=some (.int .i64 s.g)
 f0:W.frozen? ⟨b,0,none⟩=false
 f1:W.frozen? ⟨b,1,none⟩=false
 f2:W.frozen? ⟨b+1,0,none⟩=false
theorem LSC.kept {W W':World}{b:Nat}{s:lN}(h:LSC W b s)(hk:Kept W W' (fun k=>b+2<=k)):LSC W' b s:=by
 have l0:b<W.heap.size:=World.block_lt_of_cell? _ _ h.c0;have l1:b+1<W.heap.size:=World.block_lt_of_cell? _ _ h.c2;have n0:¬b+2<=b:=by omega
 have n1:¬b+2<=b+1:=by omega
 exact⟨hk.cell h.c0 n0,hk.cell h.c1 n0,hk.cell h.c2 n1,(hk.frozen (a:=⟨b,0,none⟩) l0 n0).trans h.f0,(hk.frozen (a:=⟨b,1,none⟩) l0 n0).trans h.f1,(hk.frozen (a:=⟨b+1,0,none⟩) l1 n1).trans h.f2⟩
theorem LSC.pF {W:World}{b:Nat}{s:lN}(h:LSC W b s)(t v:Int)(g:Nat):LSC (((W.setCell ⟨b,0,none⟩ (.int .u64 t)).setCell ⟨b,1,none⟩ (.int .i64 v)).setCell ⟨b+1,0,none⟩ (.int .i64 (g:Int))).drew b ⟨t,v,g⟩:=by
 refine⟨?_,?_,?_,?_,?_,?_⟩
 ·show World.cell? (World.setCell _ _ _) _=_;rw[cso (by simp),cso (by simp)];exact css h.c0
 ·show World.cell? (World.setCell _ _ _) _=_;rw[cso (by simp)];exact css (by rw[cso (by simp)];exact h.c1)
 ·show World.cell? (World.setCell _ _ _) _=_;exact css (by rw[cso (by simp),cso (by simp)];exact h.c2)
 ·show World.frozen? (World.setCell _ _ _) _=_;rw[World.frozen?_setCell,World.frozen?_setCell,World.frozen?_setCell];exact h.f0
 ·show World.frozen? (World.setCell _ _ _) _=_;rw[World.frozen?_setCell,World.frozen?_setCell,World.frozen?_setCell];exact h.f1
 ·show World.frozen? (World.setCell _ _ _) _=_;rw[World.frozen?_setCell,World.frozen?_setCell,World.frozen?_setCell];exact h.f2
def aBJ (w:World)(l0 γ:List Nat)(W:World):Prop :=
 ∃n s,γ.length<=n/\eF l0=lastF n γ s/\LSC W w.heap.size s/\Below w.heap.size w W/\s.g + γ.length<=l0.length
theorem aBJ.kept {w A B:World}{l0 γ:List Nat}(h:aBJ w l0 γ A)(hk:Kept A B (fun k=>w.heap.size+2<=k)):aBJ w l0 γ B:=by
 obtain⟨n,s,h1,h2,h3,h4,h5⟩:=h;exact⟨n,s,h1,h2,h3.kept hk,h4.trans (hk.below h4.size (fun k e=>by omega)),h5⟩

theorem aGr (v:Value)(l0:List Nat)(w:World)(hB:Bytes w v l0) :
  Calls Tryz.prog 192 #[v] w fun e w'=>e = .returned (.tuple #[.agg #[.int .u64 (eF l0).t,.int .i64 (eF l0).v],.int .i64 (eF l0).g])/\Below w.heap.size w w':=by
 have HB:=hid hB;obtain⟨a,c,rfl,_⟩:=hB.shape;clear hB;refine(callsIn_wide (n:=6)).1 ?_;refine callsIn_of_wp_marks Tryz.func192 rfl trivial ?_ rfl;simp only[Tryz.ntmps192,List.size_toArray,List.length_cons,List.length_nil,Nat.reduceAdd,Nat.reduceSub,Array.replicate_succ,Array.replicate_zero,List.push_toArray,List.append_toArray,List.nil_append,List.cons_append]
 gi_wp2_with fail
 refine⟨trivial,?_⟩;refine((callsIn_wide (n:=5)).2 (aB5 _ _ _ _)).mono ?_;rintro e w1 ⟨rfl,rfl⟩
 gi_wp2_with fail
 generalize hwL:World.alloc (World.alloc (World.alloc w _) _) _=wL;have BL:Hid (Below w.heap.size w wL):=hid (by subst hwL;exact(((Below.refl _ _).alloc (Nat.le_refl _) _).alloc (by simp) _).alloc (by simp;omega) _);have LL:Hid (wL.heap.size=w.heap.size+3):=hid (by subst hwL;simp);have CB:Hid (wL.cell? ⟨w.heap.size+1+1,0,none⟩=some (.slice a l0.length c)):=hid (by subst hwL;go_cell);have C0:Hid (LSC wL w.heap.size ⟨0,-1,0⟩):=hid (by
  have hb0:wL.heap[w.heap.size]? = some (.cells #[.int .u64 0,.int .i64 (-1)] 97 (0,0)):=by subst hwL;exact gY (gY (heap_alloc_new w _) _) _
  have hb1:wL.heap[w.heap.size+1]? = some (.cells #[.int .i64 0] 3 (0,0)):=by subst hwL;exact gY (aBe (w:=w.alloc _) (by simp) _) _
  exact⟨by simp[World.cell?,hb0],by simp[World.cell?,hb0],by simp[World.cell?,hb1],by simp[World.frozen?,hb0],by simp[World.frozen?,hb0],by simp[World.frozen?,hb1]⟩)
 clear hwL;obtain⟨S0,hS0⟩:∃S0:Nat->Prop,S0=fun k=>k=w.heap.size\/k=w.heap.size+1:=⟨_,rfl⟩;have HS0:Hid (∀k,S0 k ↔ (k=w.heap.size\/k=w.heap.size+1)):=hid (by intro k;rw[hS0]);clear hS0;obtain⟨rb,hrb⟩:∃rb,(l0 = []\/(Value.slice a l0.length c).ownBlock=some rb)/\rb<wL.heap.size /\ ¬S0 rb:=by
  by_cases he:l0 = []
  ·exact⟨w.heap.size+2,.inl he,by rw[LL.out];omega,fun h=>by have:=(HS0.out _).1 h;omega⟩
  ·obtain⟨b,h1,h2⟩:=HB.out.hU he;exact⟨b,.inr h1,by rw[LL.out];omega,fun h=>by have:=(HS0.out _).1 h;omega⟩
 refine zE (by decide) (gf:=129) (lb:=#[.pointer (some ⟨w.heap.size+1+1,0,none⟩)]) rfl (enters_of Tryz.func129 (by kernel_rfl) rfl)
  (each_seq 5 (by decide) (w.heap.size+1+1) rb (.slice a l0.length c) l0 wL CB.out (HB.out.below (BL.out.mono (Nat.le_refl _))) hrb.1 hrb.2.1 S0 hrb.2.2)
  (fun k h=>by have:=(HS0.out _).1 h;rw[LL.out];omega) (fun γ xs W h=>by obtain⟨_,v,rfl,_⟩:=h;rfl) (fun γ xs A B h hr hk=>h.kept hr hk)
  (aBJ w l0) (fun c W=>c = .exit 0/\LSC W w.heap.size (eF l0)/\Below w.heap.size w W)
  (fun γ A B h hk=>h.kept (hk.mono fun k _ e=>by rcases e with e|e<;>(rw[LL.out]at e;exact Nat.le_of_lt_succ (by omega))))
  (fun c A B h hk=>⟨h.1,h.2.1.kept (hk.mono fun k _ e=>by rcases e with e|e<;>(rw[LL.out]at e;exact Nat.le_of_lt_succ (by omega))),h.2.2.trans (hk.below (by have:=h.2.2.size;omega) (fun k e=>by rcases e with e|e<;>(rw[LL.out]at e;omega)))⟩)
  ⟨l0.length,⟨0,-1,0⟩,Nat.le_refl _,rfl,C0.out,BL.out,by simp⟩
  (fun xs=>{ tmps:=#[.slice a l0.length c,undef,.pointer (some ⟨w.heap.size,0,none⟩),.pointer (some ⟨w.heap.size+1,0,none⟩),xs.getD 0 undef,xs.getD 1 undef,undef,undef,.pointer (some ⟨w.heap.size,1,none⟩),.slice a l0.length c,.func (.func 129) #[] #[.pointer (some ⟨w.heap.size+1+1,0,none⟩)],xs.getD 0 undef,xs.getD 1 undef,undef,undef,undef,undef,undef,undef,undef,undef,undef,undef,undef,undef,undef,undef,undef,undef,undef,undef,undef,undef,undef,undef,undef,undef,undef],defers:=[] }) ?assign ?body ?done ?stop
 case assign =>
  rintro l γ xs W K ⟨_,v',rfl,_⟩ hK
  gi_wp2_with fail
  exact hK
 case body =>
  rintro l γ xs W ⟨n,s,hn,hs,hsc,hbw,hg⟩ ⟨ht,v',rfl,hB'⟩ hlt;have HN:=hid hn;have HS:=hid hs;have HSC:=hid hsc;have HBW:=hid hbw;have HBG:=hid hg;have HT:=hid ht;obtain⟨kd,hkd⟩:∃k,γ.getD 1 0=k:=⟨_,rfl⟩;have HKD:=hid hkd;rw[hkd];obtain⟨rv,hrv⟩:∃rv,(aF γ = []\/v'.ownBlock=some rv)/\rv<W.heap.size:=by
   by_cases he:aF γ = []
   ·exact⟨0,.inl he,by have:=LL.out;omega⟩
   ·obtain⟨b,h1,h2⟩:=hB'.hU he;exact⟨b,.inr h1,by omega⟩
  obtain⟨av,mv,cv,rfl⟩:∃a n c,v'=Value.slice a n c:=by obtain⟨a,c,e,_⟩:=hB'.shape;exact⟨a,_,c,e⟩
  have HB2:=hid hB';have HRV:=hid hrv;have LB:Hid (w.heap.size+1<W.heap.size):=hid (by have:=LL.out;omega);clear hn hs hsc hbw hg ht hkd hB' hrv
  gi_wp2_with fail
  refine⟨trivial,?_⟩;refine(CallsIn.inRound l ((callsIn_wide (n:=3)).2 (kN _ _ _ HB2.out HRV.out.1 (Nat.ne_of_lt HRV.out.2)))).mono ?_;rintro e w1 ⟨rfl,hr1,hb1⟩;have R1:=hid hr1;have K1:Hid (Kept W w1 (fun _=>False)):=hid (Kept.aL hb1 fun k h1 h2=>by omega);clear hr1 hb1
  gi_wp2_with fail
  refine⟨trivial,?_⟩;refine(CallsIn.inRound l ((callsIn_wide (n:=3)).2 (fK _ _ _ _ _ R1.out (by decide) (by decide)))).mono ?_;rintro e w2 ⟨rfl,hr2,hk2⟩;have R2:Hid (bT w2 W.heap.size rv (cI H60 (aF γ)) (cF H60 (aF γ))):=hid (by have h:=hr2;rw[Bool.false_or]at h;exact h);have K2:Hid (Kept W w2 (fun _=>False)):=hid (K1.out.eU hk2 (Nat.le_refl _));have L2:W.heap.size<w2.heap.size:=hr2.lt;have HTT:Hid (vT γ=bO (Int.toNat 1152921504606846976) (aF γ)):=hid rfl;have htm:(bO (Int.toNat 1152921504606846976) (aF γ):Int)<=1152921504606846976:=by have:=fU (Int.toNat 1152921504606846976) (aF γ);omega
  generalize bO (Int.toNat 1152921504606846976) (aF γ)=tt at HTT htm ⊢;clear hr2 hk2
  gi_wp2_with fail
  have XA:(w2.alloc (.cells #[.int .u64 tt,.int .i64 0] 97)).cell? ⟨w2.heap.size,0,none⟩=some (.int .u64 tt)/\(w2.alloc (.cells #[.int .u64 tt,.int .i64 0] 97)).cell? ⟨w2.heap.size,1,none⟩=some (.int .i64 0)/\(w2.alloc (.cells #[.int .u64 tt,.int .i64 0] 97)).frozen? ⟨w2.heap.size,1,none⟩=false:=⟨by go_cell,by go_cell,by simp⟩;have BA:Below w2.heap.size w2 (w2.alloc (.cells #[.int .u64 tt,.int .i64 0] 97)):=(Below.refl _ _).alloc (Nat.le_refl _) _;generalize World.alloc w2 _=w3 at *
  have X3:=hid XA;have R3:=hid (R2.out.below BA);have K3:Hid (Kept W w3 (fun _=>False)):=hid (K2.out.trans (Kept.aL BA fun k h1 h2=>by omega));have L3:w2.heap.size<w3.heap.size:=World.block_lt_of_cell? _ _ XA.1;clear XA BA;refine⟨trivial,?_⟩;refine(CallsIn.inRound l ((callsIn_wide (n:=3)).2 (fK _ 7 _ _ w3 R3.out (by decide) (by decide)))).mono ?_;rintro e w4 ⟨rfl,hr4,hk4⟩;have NX:Hid (¬w2.heap.size=W.heap.size):=hid (by omega);have R4:Hid (bT w4 W.heap.size rv (cI 7 (cI H60 (aF γ))) (cF H60 (aF γ) || cF 7 (cI H60 (aF γ)))):=hid hr4;have K4:Hid (Kept W w4 (fun _=>False)):=hid (K3.out.eU hk4 (Nat.le_refl _));have X4:Hid (w4.cell? ⟨w2.heap.size,0,none⟩=some (.int .u64 tt)/\w4.cell? ⟨w2.heap.size,1,none⟩=some (.int .i64 0)/\w4.frozen? ⟨w2.heap.size,1,none⟩=false):=hid ⟨hk4.cell X3.out.1 NX.out,hk4.cell X3.out.2.1 NX.out,(hk4.frozen (a:=⟨w2.heap.size,1,none⟩) L3 NX.out).trans X3.out.2.2⟩;have L4:w2.heap.size<w4.heap.size:=Nat.lt_of_lt_of_le L3 hk4.size;have HVV:Hid (vV γ=bO (Int.toNat 7) (cI H60 (aF γ))):=hid rfl;have hvm:(bO (Int.toNat 7) (cI H60 (aF γ)):Int)<=7:=by have:=fU (Int.toNat 7) (cI H60 (aF γ));omega
  generalize bO (Int.toNat 7) (cI H60 (aF γ))=vv at HVV hvm ⊢;clear hr4 hk4;obtain⟨x0,x1,f1⟩:=X4.out;have KS:Hid (Kept w4 (w4.setCell ⟨w2.heap.size,1,none⟩ (.int .i64 ((vv:Int) + -1))) (fun k=>k=w2.heap.size)):=hid (Kept.setCell _ _ _);have K5:Hid (Kept W (w4.setCell ⟨w2.heap.size,1,none⟩ (.int .i64 ((vv:Int) + -1))) (fun _=>False)):=hid (K4.out.eU KS.out (Nat.le_of_lt L2));have R5:Hid (bT (w4.setCell ⟨w2.heap.size,1,none⟩ (.int .i64 ((vv:Int) + -1))) W.heap.size rv (cI 7 (cI H60 (aF γ))) (cF H60 (aF γ) || cF 7 (cI H60 (aF γ)))):=hid (R4.out.kept KS.out (fun e=>NX.out e.symm) (fun e=>by have:=HRV.out.2;omega));have X5:Hid ((w4.setCell ⟨w2.heap.size,1,none⟩ (.int .i64 ((vv:Int) + -1))).cell? ⟨w2.heap.size,0,none⟩=some (.int .u64 tt)/\(w4.setCell ⟨w2.heap.size,1,none⟩ (.int .i64 ((vv:Int) + -1))).cell? ⟨w2.heap.size,1,none⟩=some (.int .i64 ((vv:Int) + -1))):=hid ⟨by rw[cso (by simp)];exact x0,css x1⟩;have LEAVE:Hid (¬vGo γ -> ∀W',Kept W W' (fun _=>False)->Kept W W' S0/\LSC W' w.heap.size (eF l0)/\Below w.heap.size w W'):=hid fun hng W' hk=>⟨hk.mono fun _ _ h=>h.elim,by rw[HS.out,mU hng];exact HSC.out.kept (hk.mono fun _ _ h=>h.elim),HBW.out.trans (hk.below HBW.out.size (fun _ h=>h.elim))⟩;by_cases h3:kd=3
  ·have h3b:((kd:Int) != 3)=false:=by rw[h3];rfl
   have HK3:=hid h3
   gi_wp2_with fail
   refine⟨trivial,?_⟩;refine(CallsIn.inRound l ((callsIn_wide (n:=3)).2 (lF _ _ _ _ R5.out))).mono ?_;rintro e w6 ⟨rfl,rfl⟩;generalize w4.setCell ⟨w2.heap.size,1,none⟩ (.int .i64 ((vv:Int) + -1))=w5 at *
   clear x0 x1 f1 h3b;by_cases he:vE γ=0
   ·have HEV:Hid (gV (cI 7 (cI H60 (aF γ))) (cF H60 (aF γ) || cF 7 (cI H60 (aF γ)))=0):=hid he;rw[HEV.out];have HGO:Hid (vGo γ):=hid ⟨HT.out,by rw[HKD.out];exact HK3.out,he⟩;obtain⟨y0,y1⟩:=X5.out;have HSC5:Hid (LSC w5 w.heap.size s):=hid (HSC.out.kept (K5.out.mono fun _ _ h=>h.elim));obtain⟨s0,s1,s2,g0,g1,g2⟩:=HSC5.out;have hmv:mv=(aF γ).length:=HB2.out.cells.1;have HMV:=hid hmv;have hsg:(s.g:Int)+(mv:Int)+8<=2097152:=by
     have h1:=HBG.out;have h2:=(fW HT.out).2.2;have h3:=HB.out.small;omega
    clear he h3 hmv;have hmo:Tryz.prog.follows .mixedOrders=true:=by kernel_rfl
    have e1:IntKind.i64.wrap ((s.g:Int)+(mv:Int))=(s.g:Int)+(mv:Int):=by simp only[IntKind.wrap_i64];omega
    have e2:IntKind.i64.wrap ((s.g:Int)+(mv:Int)+8)=(s.g:Int)+(mv:Int)+8:=by simp only[IntKind.wrap_i64];omega
    have FIN:Hid (Kept W (((w5.setCell ⟨w.heap.size,0,none⟩ (.int .u64 tt)).setCell ⟨w.heap.size,1,none⟩ (.int .i64 ((vv:Int) + -1))).setCell ⟨w.heap.size+1,0,none⟩ (.int .i64 ((s.g:Int)+(mv:Int)+8))).drew S0/\aBJ w l0 (mT γ) (((w5.setCell ⟨w.heap.size,0,none⟩ (.int .u64 tt)).setCell ⟨w.heap.size,1,none⟩ (.int .i64 ((vv:Int) + -1))).setCell ⟨w.heap.size+1,0,none⟩ (.int .i64 ((s.g:Int)+(mv:Int)+8))).drew):=hid (by
     have hgg:((s.g:Int)+(mv:Int)+8)=((s.g+(aF γ).length+8:Nat):Int):=by rw[HMV.out];omega
     have hvv:((vv:Int) + -1)=(vV γ:Int)-1:=by rw[HVV.out];omega
     have htt:(tt:Int)=(vT γ:Int):=by rw[HTT.out]
     rw[hgg,hvv,htt];have kk:Kept w5 (((w5.setCell ⟨w.heap.size,0,none⟩ (.int .u64 (vT γ:Int))).setCell ⟨w.heap.size,1,none⟩ (.int .i64 ((vV γ:Int)-1))).setCell ⟨w.heap.size+1,0,none⟩ (.int .i64 ((s.g+(aF γ).length+8:Nat):Int))).drew S0:=by
      refine Kept.trans (b:=_) ?_ (Kept.drew _ _);refine(((Kept.setCell w5 _ _).mono fun k _ e=>(HS0.out k).2 (.inl e)).trans ((Kept.setCell _ _ _).mono fun k _ e=>(HS0.out k).2 (.inl e))).trans ((Kept.setCell _ _ _).mono fun k _ e=>(HS0.out k).2 (.inr e))
     have kW:=(K5.out.mono (fun _ _ h=>h.elim)).trans kk;obtain⟨q1,q2,q3⟩:=fW HT.out;refine⟨kW,n-1,⟨vT γ,(vV γ:Int)-1,s.g+(aF γ).length+8⟩,by have:=HN.out;omega,?_,HSC5.out.pF _ _ _,HBW.out.trans (kW.below HBW.out.size (fun k h=>by have:=(HS0.out k).1 h;omega)),by have:=HBG.out;simp only;omega⟩;obtain⟨m,hm⟩:∃m,n=m+1:=⟨n-1,by have:=HN.out;omega⟩;rw[HS.out,hm,Nat.add_sub_cancel];exact aCi HGO.out m s)
    gi_wp2_with fail
    gi_region_with_o (fail)
    all_goals
     first|exact FIN.out|(gi_wp2_with fail;exact FIN.out)
   ·obtain⟨q,hq⟩:∃q,gV (cI 7 (cI H60 (aF γ))) (cF H60 (aF γ) || cF 7 (cI H60 (aF γ)))=q:=⟨_,rfl⟩;have hqb:((q:Int) != 0)=true:=by have:q≠0:=fun e=>he (hq.trans e);simp;omega
    rw[hq];have HNG:Hid (¬vGo γ):=hid (fun h=>he h.2.2);clear he hq
    gi_wp2_with fail
    have h:=LEAVE.out HNG.out _ K5.out;exact⟨h.1,rfl,h.2⟩
  ·have h3b:((kd:Int) != 3)=true:=by simp;omega
   have HNG:Hid (¬vGo γ):=hid (fun h=>h3 (by rw[<- HKD.out];exact h.2.1))
   gi_wp2_with fail
   refine⟨trivial,?_⟩
   gi_wp2_with fail
   have h:=LEAVE.out HNG.out _ K5.out;exact⟨h.1,rfl,h.2⟩
 case done =>
  rintro γ W hf ⟨n,s,hn,hs,hsc,hbw,hg⟩ hD;have HSC:=hid hsc;have HBW:=hid hbw;have HR:Hid (eF l0=s):=hid (by rw[hs,mU (fun h=>hf h.1)]);have HD:=hid hD;clear hn hs hsc hbw hg hf hD;have HRR:Hid (eF l0=s):=HR;obtain⟨s0,s1,s2,g0,g1,g2⟩:=HSC.out;have hmo:Tryz.prog.follows .mixedOrders=true:=by kernel_rfl
  have W2:=hid (HSC.out.pF s.t s.v s.g);have H2:Hid ((((W.setCell ⟨w.heap.size,0,none⟩ (.int .u64 s.t)).setCell ⟨w.heap.size,1,none⟩ (.int .i64 s.v)).setCell ⟨w.heap.size+1,0,none⟩ (.int .i64 (s.g:Int))).drew.heap[wL.heap.size]? = some (.deferred (some []))):=hid (by
   have l:=LL.out;refine(Below.heap_setCell _ ⟨w.heap.size+1,0,none⟩ _ wL.heap.size (by show wL.heap.size≠w.heap.size+1;omega)).trans ?_;refine(Below.heap_setCell _ ⟨w.heap.size,1,none⟩ _ wL.heap.size (by show wL.heap.size≠w.heap.size;omega)).trans ?_;exact(Below.heap_setCell _ ⟨w.heap.size,0,none⟩ _ wL.heap.size (by show wL.heap.size≠w.heap.size;omega)).trans HD.out)
  have B2:Hid (Below w.heap.size w (((W.setCell ⟨w.heap.size,0,none⟩ (.int .u64 s.t)).setCell ⟨w.heap.size,1,none⟩ (.int .i64 s.v)).setCell ⟨w.heap.size+1,0,none⟩ (.int .i64 (s.g:Int))).drew):=hid (by
   have k:Kept W (((W.setCell ⟨w.heap.size,0,none⟩ (.int .u64 s.t)).setCell ⟨w.heap.size,1,none⟩ (.int .i64 s.v)).setCell ⟨w.heap.size+1,0,none⟩ (.int .i64 (s.g:Int))).drew (fun k=>k=w.heap.size\/k=w.heap.size+1):=by
    refine Kept.trans (b:=_) ?_ (Kept.drew _ _);exact(((Kept.setCell W _ _).mono fun k _ e=>.inl e).trans ((Kept.setCell _ _ _).mono fun k _ e=>.inl e)).trans ((Kept.setCell _ _ _).mono fun k _ e=>.inr e)
   exact HBW.out.trans (k.below HBW.out.size (fun k h=>by omega)))
  gi_wp2_with fail
  gi_region_with_o (fail)
  all_goals
   gi_wp2_with fail
   generalize (((W.setCell ⟨w.heap.size,0,none⟩ (.int .u64 s.t)).setCell ⟨w.heap.size,1,none⟩ (.int .i64 s.v)).setCell ⟨w.heap.size+1,0,none⟩ (.int .i64 (s.g:Int))).drew=W2w at *
   refine⟨by simp,.inl ⟨_,_,rfl,run_takeDeferred H2.out,?_⟩⟩;have kp:Kept W2w (W2w.putObj wL.heap.size (.deferred none)) (fun k=>w.heap.size+2<=k):=(Kept.putObj _ _ _).mono fun k _ e=>by have:=LL.out;omega
   have w3:=W2.out.kept kp;have b3:=B2.out.trans (kp.below B2.out.size (fun k h=>by omega));generalize W2w.putObj wL.heap.size (.deferred none)=W3w at *
   rw[HRR.out];have r0:=w3.c0;have r1:=w3.c1;have r2:=w3.c2;refine⟨_,?_,rfl,b3⟩;simp[results,Tryz.results192,go_sem,r0,r1,r2]
 case stop =>
  rintro c0 W ⟨rfl,hsc,hbw⟩ hD;have HSC:=hid hsc;have HBW:=hid hbw;have HD:=hid hD;obtain⟨s,hs⟩:∃s,eF l0=s:=⟨_,rfl⟩;rw[hs]at HSC;have HRR:=hid hs;clear hsc hbw hD hs;obtain⟨s0,s1,s2,g0,g1,g2⟩:=HSC.out;have hmo:Tryz.prog.follows .mixedOrders=true:=by kernel_rfl
  have W2:=hid (HSC.out.pF s.t s.v s.g);have H2:Hid ((((W.setCell ⟨w.heap.size,0,none⟩ (.int .u64 s.t)).setCell ⟨w.heap.size,1,none⟩ (.int .i64 s.v)).setCell ⟨w.heap.size+1,0,none⟩ (.int .i64 (s.g:Int))).drew.heap[wL.heap.size]? = some (.deferred (some []))):=hid (by
   have l:=LL.out;refine(Below.heap_setCell _ ⟨w.heap.size+1,0,none⟩ _ wL.heap.size (by show wL.heap.size≠w.heap.size+1;omega)).trans ?_;refine(Below.heap_setCell _ ⟨w.heap.size,1,none⟩ _ wL.heap.size (by show wL.heap.size≠w.heap.size;omega)).trans ?_;exact(Below.heap_setCell _ ⟨w.heap.size,0,none⟩ _ wL.heap.size (by show wL.heap.size≠w.heap.size;omega)).trans HD.out)
  have B2:Hid (Below w.heap.size w (((W.setCell ⟨w.heap.size,0,none⟩ (.int .u64 s.t)).setCell ⟨w.heap.size,1,none⟩ (.int .i64 s.v)).setCell ⟨w.heap.size+1,0,none⟩ (.int .i64 (s.g:Int))).drew):=hid (by
   have k:Kept W (((W.setCell ⟨w.heap.size,0,none⟩ (.int .u64 s.t)).setCell ⟨w.heap.size,1,none⟩ (.int .i64 s.v)).setCell ⟨w.heap.size+1,0,none⟩ (.int .i64 (s.g:Int))).drew (fun k=>k=w.heap.size\/k=w.heap.size+1):=by
    refine Kept.trans (b:=_) ?_ (Kept.drew _ _);exact(((Kept.setCell W _ _).mono fun k _ e=>.inl e).trans ((Kept.setCell _ _ _).mono fun k _ e=>.inl e)).trans ((Kept.setCell _ _ _).mono fun k _ e=>.inr e)
   exact HBW.out.trans (k.below HBW.out.size (fun k h=>by omega)))
  gi_wp2_with fail
  gi_region_with_o (fail)
  all_goals
   gi_wp2_with fail
   generalize (((W.setCell ⟨w.heap.size,0,none⟩ (.int .u64 s.t)).setCell ⟨w.heap.size,1,none⟩ (.int .i64 s.v)).setCell ⟨w.heap.size+1,0,none⟩ (.int .i64 (s.g:Int))).drew=W2w at *
   refine⟨by simp,.inl ⟨_,_,rfl,run_takeDeferred H2.out,?_⟩⟩;have kp:Kept W2w (W2w.putObj wL.heap.size (.deferred none)) (fun k=>w.heap.size+2<=k):=(Kept.putObj _ _ _).mono fun k _ e=>by have:=LL.out;omega
   have w3:=W2.out.kept kp;have b3:=B2.out.trans (kp.below B2.out.size (fun k h=>by omega));generalize W2w.putObj wL.heap.size (.deferred none)=W3w at *
   rw[HRR.out];have r0:=w3.c0;have r1:=w3.c1;have r2:=w3.c2;refine⟨_,?_,rfl,b3⟩;simp[results,Tryz.results192,go_sem,r0,r1,r2]
