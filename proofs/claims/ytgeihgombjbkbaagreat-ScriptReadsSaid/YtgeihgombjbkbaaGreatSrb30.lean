/- For screads_law_holds. -/
import Derived.Test.YtgeihgombjbkbaaGreatSrb29
import Derived.Test.YtgeihgombjbkbaaGreatSrb25
set_option maxHeartbeats 16000000
set_option maxRecDepth 100000
namespace Go.Proofs.YtgeihgombjbkbaaGreat
open Go.RowKit Go.Maps Go.Proofs.Own
theorem rE {l:List Nat}{a:Option Addr}{c rb:Nat}{w:World}(hB:Bytes w (.slice a l.length c) l)(hv:l = []\/(Value.slice a l.length c).ownBlock=some rb)(hr:rb<w.heap.size):Calls Tryz.prog 80 #[.slice a l.length c] w (bD l w):=by
 have F0:Fo [] (fun _=>False) w (fun v=>Bytes v (.slice a l.length c) l) w []:=Fo.start nofun fun _ bv=>hB.below bv;clear hB;refine enter (fun _=>0) [.sl (fun _=>a) (fun _=>l.length) (fun _=>c)] [] Tryz.func80 rfl rfl F0 77 rfl ?_;refine ga env (Fo.frm _ _ _ _ 0 rfl) aA ?_;refine⟨fun q=>?_,fun q=>?_⟩
 ·have hl:2048<l.length:=by have q:decide ((l.length:Int) > 2048)=true:=q;simp only[decide_eq_true_eq]at q;omega
  refine ga env (Fo.frm _ _ _ _ 0 rfl) aA ?_;refine fa env (Fo.frm _ _ _ _ 0 rfl) ?_;intro B v F;unfold bD;rw[iG,if_pos hl];exact⟨cG,rfl,fun u _=>aN.zero u,F.bel⟩
 have hl:¬2048<l.length:=by have q:decide ((l.length:Int) > 2048)=false:=q;simp only[decide_eq_false_iff_not]at q;omega
 clear q;refine gn 8 env (Fo.frm _ _ _ _ 0 rfl) aA ?_;refine iV 1 fun B v F=>?_;refine⟨FrD (B 1) rb w (fun _=>True) (Rz (B 1) rb (l,false)) 324 2 (.slice none 0 0) [],aKJ 324 2 (L:=[(B 0,_)]) F F.now hv hr,?_⟩;have hwb:w.heap.size<=B 1:=by
  obtain⟨L',e1,f⟩:=F;have e1:_=L':=e1;exact(f.rng (B 1,_) (by rw[<- e1];exact List.mem_cons_of_mem _ List.mem_cons_self)).1
 clear F F0;generalize B 1=b at hwb ⊢;clear v;have hR:bR l=bR l:=rfl
 conv at hR=>rhs;unfold bR nF
 refine ga env fd aA ?_;refine cL 12 _ rfl (by decide) ?_;refine gn 1 env fd aA ?_;refine gD 16 (.i .i64 (.cv .i64 (.x fun _=>(aB 12 l:Nat)))) (.i .i64 (.x fun _=>(aB 12 l:Nat))) (fun B=>congrArg (Value.int .i64) (dI (aD 12 _) (by decide))) ?_;refine ga env fd aA ?_;refine cL 8 _ rfl (by decide) ?_;refine ga env fd aA ?_;refine cL ALL _ rfl (by decide) ?_;refine ga env fd aA ?_;have hK9:((aB 12 l:Nat):Int)<=12:=by have:=aD 12 l;omega
 have hK0:(0:Int)<=((aB 12 l:Nat):Int):=by omega
 generalize aB 12 l=K at hK9 hK0 hR ⊢;generalize aB 8 (nS 12 (l,false)).1=cl at hR ⊢;generalize aB ALL (nS 8 (nS 12 (l,false))).1=rq at hR ⊢;generalize nS ALL (nS 8 (nS 12 (l,false)))=s3 at hR ⊢;by_cases h1:(K:Int)=1
 ·refine aI 27 false (e:=.cmp .neq (.x fun _=>(K:Int)) (.l 1)) (by show ((K:Int) != 1)=false;rw[h1];rfl) ?_;refine ga env fd aA ?_;refine⟨fun q=>absurd (show (K:Int)=2 by simpa [BE.den,cmpB,IE.den] using q) (by omega),fun q=>?_⟩;clear q;refine ga env fd aA ?_;refine⟨fun q=>absurd (show (K:Int)=3 by simpa [BE.den,cmpB,IE.den] using q) (by omega),fun q=>?_⟩;clear q;refine ga env fd aA ?_;refine⟨fun q=>absurd (show (K:Int)=4 by simpa [BE.den,cmpB,IE.den] using q) (by omega),fun q=>?_⟩;clear q;refine ga env fd aA ?_;refine⟨fun q=>absurd (show (K:Int)=9 by simpa [BE.den,cmpB,IE.den] using q) (by omega),fun q=>?_⟩;clear q;have hr1:bR l=(⟨K,cl,rq,0,0,0,bM,bN⟩,s3):=by rw[hR,dK,if_neg (by omega),if_neg (by omega),if_neg (by omega),if_neg (by omega),if_pos h1]
  refine ga env fd aA ?_;have hr0:bR l=(⟨K,cl,rq,0,0,0,bM,bN⟩,s3):=hr1;generalize hT:s3=t9 at hr0 ⊢;have HI:∀u,True->aN u ⟨K,cl,rq,0,0,0,bM,bN⟩ cG:=fun u _=>⟨bP.zero u,bV.zero u,gY.1,gY.2⟩;intro B w5 F;refine(fU b _ _ w5 F.z).mono ?_;rintro e w6 ⟨rfl,rfl⟩;rcases cZ t9.1 t9.2 with hE|hE
  case inr =>
   refine⟨.i .i64 (.l 20),_,by rw[hE];rfl,fd.b,F,?_⟩;clear F;refine ga env fd aA ?_;refine fa env fd ?_;intro B v F;exact bD.bad (bE hr0 hl fun h=>by have h:=h.1;simp only at h;omega) (F.kept.below (Nat.le_refl _) fun k hk=>hk ▸ hwb)
  refine⟨.i .i64 (.l 0),_,by rw[hE];rfl,fd.b,F,?_⟩;clear F;refine ga env fd aA ?_;intro B v F;refine(dG ⟨K,cl,rq,0,0,0,bM,bN⟩ cG v (HI _ F.now)).mono ?_;rintro e w7 ⟨rfl,hb⟩;cases hok:bQ ⟨K,cl,rq,0,0,0,bM,bN⟩ with
  | false =>
   refine⟨.b (.l false),_,rfl,fd.b,F.call hb,?_⟩;clear F hb;refine ga env fd aA ?_;refine fa env fd ?_;intro B v F;exact bD.bad (bE hr0 hl fun h=>by have h:=h.2;simp only at h;rw[hok]at h;cases h) (F.kept.below (Nat.le_refl _) fun k hk=>hk ▸ hwb)
  | true =>
   refine⟨.b (.l true),_,rfl,fd.b,F.call hb,?_⟩;clear F hb;refine ga env fd aA ?_;refine fa env fd ?_;intro B v F;unfold bD;rw[eJ hr0 hl ⟨hE,hok⟩];exact⟨cG,rfl,F.old.imp HI,F.kept.below (Nat.le_refl _) fun k hk=>hk ▸ hwb⟩
 refine aI 27 true (e:=.cmp .neq (.x fun _=>(K:Int)) (.l 1)) (by show ((K:Int) != 1)=true;simpa using h1) ?_;refine ga env fd aA ?_;refine⟨fun q=>?_,fun q=>?_⟩
 ·have hk9:(K:Int)≠9:=by simpa [BE.den,cmpB,IE.den] using q
  clear q;refine ga env fd aA ?_;refine cL ALL _ rfl (by decide) ?_;refine ga env fd aA ?_;refine⟨fun q=>?_,fun q=>?_⟩
  ·have h2:(K:Int)=2:=by simpa [BE.den,cmpB,IE.den] using q
   clear q;refine ga env fd aA ?_;intro B w3 F;refine(rC F.z F.lt.2).mono ?_;rintro e w4 ⟨wa,wc,ca,cc,rfl,hs,hz,hk⟩;have hno:=@aIl (nS ALL s3);have hr1:bR l=(⟨K,cl,rq,(aB ALL s3.1:Nat),0,0,(dC (nS ALL s3)).1,bN⟩,(dC (nS ALL s3)).2.1):=by rw[hR,dK,if_pos h2]
   cases hb2:(dC (nS ALL s3)).2.2 with
   | false =>
    have h20:gR (dC (nS ALL s3)).2.1.1 (dC (nS ALL s3)).2.1.2=20:=by rw[hno hb2];rfl
    refine⟨.t [.g [.i .i64 (.x fun _=>(dC (nS ALL s3)).1.o),.sl (fun _=>wa) (fun _=>(dC (nS ALL s3)).1.w.length) (fun _=>wc),.sl (fun _=>ca) (fun _=>(dC (nS ALL s3)).1.c.length) (fun _=>cc)],.b (.l false)],_,rfl,fd.b,F.rdR hk (dZ hz) hs,?_⟩;clear F hs hz hk w3 w4;refine ga env fd aA ?_;refine fa env fd ?_;intro B v F;exact bD.bad (bE hr1 hl fun h=>by have h:=h.1;simp only at h;rw[h20]at h;cases h) (F.kept.below (Nat.le_refl _) fun k hk=>hk ▸ hwb)
   | true =>
   refine⟨.t [.g [.i .i64 (.x fun _=>(dC (nS ALL s3)).1.o),.sl (fun _=>wa) (fun _=>(dC (nS ALL s3)).1.w.length) (fun _=>wc),.sl (fun _=>ca) (fun _=>(dC (nS ALL s3)).1.c.length) (fun _=>cc)],.b (.l true)],_,rfl,fd.b,F.rdR hk (dZ hz) hs,?_⟩;clear F hs hz hk w3 w4 hb2 hno;generalize dC (nS ALL s3)=r at hr1 ⊢;generalize aB ALL s3.1=id at hr1 ⊢;refine ga env fd aA ?_;have hr0:bR l=(⟨K,cl,rq,id,0,0,r.1,bN⟩,r.2.1):=hr1;generalize hT:r.2.1=t9 at hr0 ⊢;clear hT;have HI:∀u,bP u r.1 wa r.1.w.length wc ca r.1.c.length cc/\True->aN u ⟨K,cl,rq,id,0,0,r.1,bN⟩ ⟨wa,r.1.w.length,wc,ca,r.1.c.length,cc,none,0,0⟩:=fun u h=>⟨h.1,bV.zero u,gY.1,gY.2⟩;intro B w5 F;refine(fU b _ _ w5 F.z).mono ?_;rintro e w6 ⟨rfl,rfl⟩;rcases cZ t9.1 t9.2 with hE|hE
   case inr =>
    refine⟨.i .i64 (.l 20),_,by rw[hE];rfl,fd.b,F,?_⟩;clear F;refine ga env fd aA ?_;refine fa env fd ?_;intro B v F;exact bD.bad (bE hr0 hl fun h=>by have h:=h.1;simp only at h;omega) (F.kept.below (Nat.le_refl _) fun k hk=>hk ▸ hwb)
   refine⟨.i .i64 (.l 0),_,by rw[hE];rfl,fd.b,F,?_⟩;clear F;refine ga env fd aA ?_;intro B v F;refine(dG ⟨K,cl,rq,id,0,0,r.1,bN⟩ ⟨wa,r.1.w.length,wc,ca,r.1.c.length,cc,none,0,0⟩ v (HI _ F.now)).mono ?_;rintro e w7 ⟨rfl,hb⟩;cases hok:bQ ⟨K,cl,rq,id,0,0,r.1,bN⟩ with
   | false =>
    refine⟨.b (.l false),_,rfl,fd.b,F.call hb,?_⟩;clear F hb;refine ga env fd aA ?_;refine fa env fd ?_;intro B v F;exact bD.bad (bE hr0 hl fun h=>by have h:=h.2;simp only at h;rw[hok]at h;cases h) (F.kept.below (Nat.le_refl _) fun k hk=>hk ▸ hwb)
   | true =>
    refine⟨.b (.l true),_,rfl,fd.b,F.call hb,?_⟩;clear F hb;refine ga env fd aA ?_;refine fa env fd ?_;intro B v F;unfold bD;rw[eJ hr0 hl ⟨hE,hok⟩];exact⟨⟨wa,r.1.w.length,wc,ca,r.1.c.length,cc,none,0,0⟩,rfl,F.old.imp HI,F.kept.below (Nat.le_refl _) fun k hk=>hk ▸ hwb⟩
  have h2:¬(K:Int)=2:=by simpa [BE.den,cmpB,IE.den] using q
  clear q;refine ga env fd aA ?_;refine⟨fun q=>?_,fun q=>?_⟩
  ·have h3:(K:Int)=3:=by simpa [BE.den,cmpB,IE.den] using q
   clear q;refine ga env fd aA ?_;intro B w3 F;refine(rF F.z F.lt.2).mono ?_;rintro e w4 ⟨la,lc,rfl,hs,hz,hk⟩;have hno:=@aIs (nS ALL s3);have hr1:bR l=(⟨K,cl,rq,(aB ALL s3.1:Nat),0,0,bM,(cW (nS ALL s3)).1⟩,(cW (nS ALL s3)).2.1):=by rw[hR,dK,if_neg h2,if_pos h3]
   cases hb2:(cW (nS ALL s3)).2.2 with
   | false =>
    have h20:gR (cW (nS ALL s3)).2.1.1 (cW (nS ALL s3)).2.1.2=20:=by rw[hno hb2];rfl
    refine⟨.t [.g [.i .i64 (.x fun _=>(cW (nS ALL s3)).1.c),.sl (fun _=>la) (fun _=>(cW (nS ALL s3)).1.l.length) (fun _=>lc),.i .i64 (.x fun _=>(cW (nS ALL s3)).1.r),.i .i64 (.x fun _=>(cW (nS ALL s3)).1.b)],.b (.l false)],_,rfl,fd.b,F.rdR hk (dZ hz) hs,?_⟩;clear F hs hz hk w3 w4;refine ga env fd aA ?_;refine fa env fd ?_;intro B v F;exact bD.bad (bE hr1 hl fun h=>by have h:=h.1;simp only at h;rw[h20]at h;cases h) (F.kept.below (Nat.le_refl _) fun k hk=>hk ▸ hwb)
   | true =>
   refine⟨.t [.g [.i .i64 (.x fun _=>(cW (nS ALL s3)).1.c),.sl (fun _=>la) (fun _=>(cW (nS ALL s3)).1.l.length) (fun _=>lc),.i .i64 (.x fun _=>(cW (nS ALL s3)).1.r),.i .i64 (.x fun _=>(cW (nS ALL s3)).1.b)],.b (.l true)],_,rfl,fd.b,F.rdR hk (dZ hz) hs,?_⟩;clear F hs hz hk w3 w4 hb2 hno;generalize cW (nS ALL s3)=r at hr1 ⊢;generalize aB ALL s3.1=id at hr1 ⊢;refine ga env fd aA ?_;have hr0:bR l=(⟨K,cl,rq,id,0,0,bM,r.1⟩,r.2.1):=hr1;generalize hT:r.2.1=t9 at hr0 ⊢;clear hT;have HI:∀u,bV u r.1 la r.1.l.length lc/\True->aN u ⟨K,cl,rq,id,0,0,bM,r.1⟩ ⟨none,0,0,none,0,0,la,r.1.l.length,lc⟩:=fun u h=>⟨bP.zero u,h.1,gY.1,gY.2⟩;intro B w5 F;refine(fU b _ _ w5 F.z).mono ?_;rintro e w6 ⟨rfl,rfl⟩;rcases cZ t9.1 t9.2 with hE|hE
   case inr =>
    refine⟨.i .i64 (.l 20),_,by rw[hE];rfl,fd.b,F,?_⟩;clear F;refine ga env fd aA ?_;refine fa env fd ?_;intro B v F;exact bD.bad (bE hr0 hl fun h=>by have h:=h.1;simp only at h;omega) (F.kept.below (Nat.le_refl _) fun k hk=>hk ▸ hwb)
   refine⟨.i .i64 (.l 0),_,by rw[hE];rfl,fd.b,F,?_⟩;clear F;refine ga env fd aA ?_;intro B v F;refine(dG ⟨K,cl,rq,id,0,0,bM,r.1⟩ ⟨none,0,0,none,0,0,la,r.1.l.length,lc⟩ v (HI _ F.now)).mono ?_;rintro e w7 ⟨rfl,hb⟩;cases hok:bQ ⟨K,cl,rq,id,0,0,bM,r.1⟩ with
   | false =>
    refine⟨.b (.l false),_,rfl,fd.b,F.call hb,?_⟩;clear F hb;refine ga env fd aA ?_;refine fa env fd ?_;intro B v F;exact bD.bad (bE hr0 hl fun h=>by have h:=h.2;simp only at h;rw[hok]at h;cases h) (F.kept.below (Nat.le_refl _) fun k hk=>hk ▸ hwb)
   | true =>
    refine⟨.b (.l true),_,rfl,fd.b,F.call hb,?_⟩;clear F hb;refine ga env fd aA ?_;refine fa env fd ?_;intro B v F;unfold bD;rw[eJ hr0 hl ⟨hE,hok⟩];exact⟨⟨none,0,0,none,0,0,la,r.1.l.length,lc⟩,rfl,F.old.imp HI,F.kept.below (Nat.le_refl _) fun k hk=>hk ▸ hwb⟩
  have h3:¬(K:Int)=3:=by simpa [BE.den,cmpB,IE.den] using q
  clear q;refine ga env fd aA ?_;refine⟨fun q=>?_,fun q=>?_⟩
  ·have h4:(K:Int)=4:=by simpa [BE.den,cmpB,IE.den] using q
   clear q;refine ga env fd aA ?_;refine cL 15 _ rfl (by decide) ?_;have hr1:bR l=(⟨K,cl,rq,(aB ALL s3.1:Nat),(aB 15 (nS ALL s3).1:Nat),0,bM,bN⟩,nS 15 (nS ALL s3)):=by rw[hR,dK,if_neg h2,if_neg h3,if_pos h4]
   have hct:IntKind.i64.wrap ((aB 15 (nS ALL s3).1:Nat):Int)=(aB 15 (nS ALL s3).1:Nat):=dI (aD 15 _) (by decide);rw[<- hct]at hr1;generalize aB 15 (nS ALL s3).1=ct at hr1 ⊢;generalize aB ALL s3.1=id at hr1 ⊢;generalize nS 15 (nS ALL s3)=t8 at hr1 ⊢;refine ga env fd aA ?_;have hr0:bR l=(⟨K,cl,rq,id,IntKind.i64.wrap ct,0,bM,bN⟩,t8):=hr1;generalize hT:t8=t9 at hr0 ⊢;clear hT;have HI:∀u,True->aN u ⟨K,cl,rq,id,IntKind.i64.wrap ct,0,bM,bN⟩ cG:=fun u _=>⟨bP.zero u,bV.zero u,gY.1,gY.2⟩;intro B w5 F;refine(fU b _ _ w5 F.z).mono ?_;rintro e w6 ⟨rfl,rfl⟩;rcases cZ t9.1 t9.2 with hE|hE
   case inr =>
    refine⟨.i .i64 (.l 20),_,by rw[hE];rfl,fd.b,F,?_⟩;clear F;refine ga env fd aA ?_;refine fa env fd ?_;intro B v F;exact bD.bad (bE hr0 hl fun h=>by have h:=h.1;simp only at h;omega) (F.kept.below (Nat.le_refl _) fun k hk=>hk ▸ hwb)
   refine⟨.i .i64 (.l 0),_,by rw[hE];rfl,fd.b,F,?_⟩;clear F;refine ga env fd aA ?_;intro B v F;refine(dG ⟨K,cl,rq,id,IntKind.i64.wrap ct,0,bM,bN⟩ cG v (HI _ F.now)).mono ?_;rintro e w7 ⟨rfl,hb⟩;cases hok:bQ ⟨K,cl,rq,id,IntKind.i64.wrap ct,0,bM,bN⟩ with
   | false =>
    refine⟨.b (.l false),_,rfl,fd.b,F.call hb,?_⟩;clear F hb;refine ga env fd aA ?_;refine fa env fd ?_;intro B v F;exact bD.bad (bE hr0 hl fun h=>by have h:=h.2;simp only at h;rw[hok]at h;cases h) (F.kept.below (Nat.le_refl _) fun k hk=>hk ▸ hwb)
   | true =>
    refine⟨.b (.l true),_,rfl,fd.b,F.call hb,?_⟩;clear F hb;refine ga env fd aA ?_;refine fa env fd ?_;intro B v F;unfold bD;rw[eJ hr0 hl ⟨hE,hok⟩];exact⟨cG,rfl,F.old.imp HI,F.kept.below (Nat.le_refl _) fun k hk=>hk ▸ hwb⟩
  have h4:¬(K:Int)=4:=by simpa [BE.den,cmpB,IE.den] using q
  clear q;refine ga env fd aA ?_;refine⟨fun q=>absurd (show (K:Int)=9 by simpa [BE.den,cmpB,IE.den] using q) (by omega),fun q=>?_⟩;clear q;have hr1:bR l=(⟨K,cl,rq,(aB ALL s3.1:Nat),0,0,bM,bN⟩,nS ALL s3):=by rw[hR,dK,if_neg h2,if_neg h3,if_neg h4,if_neg hk9,if_neg h1]
  generalize aB ALL s3.1=id at hr1 ⊢;generalize nS ALL s3=t8 at hr1 ⊢;refine ga env fd aA ?_;have hr0:bR l=(⟨K,cl,rq,id,0,0,bM,bN⟩,t8):=hr1;generalize hT:t8=t9 at hr0 ⊢;clear hT;have HI:∀u,True->aN u ⟨K,cl,rq,id,0,0,bM,bN⟩ cG:=fun u _=>⟨bP.zero u,bV.zero u,gY.1,gY.2⟩;intro B w5 F;refine(fU b _ _ w5 F.z).mono ?_;rintro e w6 ⟨rfl,rfl⟩;rcases cZ t9.1 t9.2 with hE|hE
  case inr =>
   refine⟨.i .i64 (.l 20),_,by rw[hE];rfl,fd.b,F,?_⟩;clear F;refine ga env fd aA ?_;refine fa env fd ?_;intro B v F;exact bD.bad (bE hr0 hl fun h=>by have h:=h.1;simp only at h;omega) (F.kept.below (Nat.le_refl _) fun k hk=>hk ▸ hwb)
  refine⟨.i .i64 (.l 0),_,by rw[hE];rfl,fd.b,F,?_⟩;clear F;refine ga env fd aA ?_;intro B v F;refine(dG ⟨K,cl,rq,id,0,0,bM,bN⟩ cG v (HI _ F.now)).mono ?_;rintro e w7 ⟨rfl,hb⟩;cases hok:bQ ⟨K,cl,rq,id,0,0,bM,bN⟩ with
  | false =>
   refine⟨.b (.l false),_,rfl,fd.b,F.call hb,?_⟩;clear F hb;refine ga env fd aA ?_;refine fa env fd ?_;intro B v F;exact bD.bad (bE hr0 hl fun h=>by have h:=h.2;simp only at h;rw[hok]at h;cases h) (F.kept.below (Nat.le_refl _) fun k hk=>hk ▸ hwb)
  | true =>
   refine⟨.b (.l true),_,rfl,fd.b,F.call hb,?_⟩;clear F hb;refine ga env fd aA ?_;refine fa env fd ?_;intro B v F;unfold bD;rw[eJ hr0 hl ⟨hE,hok⟩];exact⟨cG,rfl,F.old.imp HI,F.kept.below (Nat.le_refl _) fun k hk=>hk ▸ hwb⟩
 have h9:(K:Int)=9:=by simpa [BE.den,cmpB,IE.den] using q
 clear q;refine ga env fd aA ?_;refine⟨fun q=>absurd (show (K:Int)=2 by simpa [BE.den,cmpB,IE.den] using q) (by omega),fun q=>?_⟩;clear q;refine ga env fd aA ?_;refine⟨fun q=>absurd (show (K:Int)=3 by simpa [BE.den,cmpB,IE.den] using q) (by omega),fun q=>?_⟩;clear q;refine ga env fd aA ?_;refine⟨fun q=>absurd (show (K:Int)=4 by simpa [BE.den,cmpB,IE.den] using q) (by omega),fun q=>?_⟩;clear q;refine ga env fd aA ?_;refine⟨fun q=>?_,fun q=>absurd (show (K:Int)=9 by omega) (by simpa [BE.den,cmpB,IE.den] using q)⟩;clear q;refine ga env fd aA ?_;refine vT ?_;have hr1:bR l=(⟨K,cl,rq,0,0,eU s3.1,bM,bN⟩,iS s3):=by rw[hR,dK,if_neg (by omega),if_neg (by omega),if_neg (by omega),if_pos h9]
 have hi:=sE s3.1;generalize eU s3.1=at1 at hr1 hi ⊢;generalize iS s3=t8 at hr1 ⊢;refine ga env fd aA ?_;have hr0:bR l=(⟨K,cl,rq,0,0,at1,bM,bN⟩,t8):=hr1;generalize hT:t8=t9 at hr0 ⊢;clear hT;have HI:∀u,True->aN u ⟨K,cl,rq,0,0,at1,bM,bN⟩ cG:=fun u _=>⟨bP.zero u,bV.zero u,hi.1,hi.2⟩;intro B w5 F;refine(fU b _ _ w5 F.z).mono ?_;rintro e w6 ⟨rfl,rfl⟩;rcases cZ t9.1 t9.2 with hE|hE
 case inr =>
  refine⟨.i .i64 (.l 20),_,by rw[hE];rfl,fd.b,F,?_⟩;clear F;refine ga env fd aA ?_;refine fa env fd ?_;intro B v F;exact bD.bad (bE hr0 hl fun h=>by have h:=h.1;simp only at h;omega) (F.kept.below (Nat.le_refl _) fun k hk=>hk ▸ hwb)
 refine⟨.i .i64 (.l 0),_,by rw[hE];rfl,fd.b,F,?_⟩;clear F;refine ga env fd aA ?_;intro B v F;refine(dG ⟨K,cl,rq,0,0,at1,bM,bN⟩ cG v (HI _ F.now)).mono ?_;rintro e w7 ⟨rfl,hb⟩;cases hok:bQ ⟨K,cl,rq,0,0,at1,bM,bN⟩ with
 | false =>
  refine⟨.b (.l false),_,rfl,fd.b,F.call hb,?_⟩;clear F hb;refine ga env fd aA ?_;refine fa env fd ?_;intro B v F;exact bD.bad (bE hr0 hl fun h=>by have h:=h.2;simp only at h;rw[hok]at h;cases h) (F.kept.below (Nat.le_refl _) fun k hk=>hk ▸ hwb)
 | true =>
  refine⟨.b (.l true),_,rfl,fd.b,F.call hb,?_⟩;clear F hb;refine ga env fd aA ?_;refine fa env fd ?_;intro B v F;unfold bD;rw[eJ hr0 hl ⟨hE,hok⟩];exact⟨cG,rfl,F.old.imp HI,F.kept.below (Nat.le_refl _) fun k hk=>hk ▸ hwb⟩

def plGt:Nat->Option Pl
 | 13=>some ⟨[0,1,0,4,12,0,44,108,252,508,1023,2047,4095],472,[.h [0,1,2,5],.o 3,.h [4],.o 6,.h [7,8],.o 9,.o 10,.h [11],.o 12],[]⟩
 | _=>none
def yL:List AV:=[.i .i64 (.l 0),.i .i64 (.l 0),.i .i64 (.l 0),.i .i64 (.l 0),.i .u64 (.l 0),.i .i64 (.l 0),.i .u64 (.l 0),.i .u64 (.l 0),.i .u64 (.l 0),.i .i64 (.l 0),.i .i64 (.l 0),.i .i64 (.l 0),.v (.slice none 0 0),.v (.slice none 0 0),.i .i64 (.l 0),.v (.slice none 0 0),.i .i64 (.l 0),.i .i64 (.l 0),.v (.slice none 0 0)]
def qQ {m1 m2 n:Nat}{t0:RS}(b N:Nat)(i:PI m1 m2 n t0):List (Nat × AV):=[(0,.pa (fun _=>⟨b,0,none⟩)),(2,.p 0 0),(3,.f (.func 23) [.pa (fun _=>⟨b,0,none⟩)] []),(44,.i .u64 (.x fun _=>(N:Nat))),(45,.i .u64 (.x fun _=>(i.j:Int)))]
def getD {m1 m2 n:Nat}{t0:RS}(b N:Nat)(i:PI m1 m2 n t0):List (Nat × AV):=[(0,.pa (fun _=>⟨b,0,none⟩)),(2,.p 0 0),(3,.p 1 0),(7,.i .i64 (.x fun _=>(N:Nat))),(8,.i .i64 (.x fun _=>(i.j:Int)))]
theorem aHA {b rb:Nat}{w:World}{t:RS}(h:aF w b rb t.1 t.2)(hr:rb<w.heap.size):Calls Tryz.prog 26 #[.pointer (some ⟨b,0,none⟩)] w (vE b rb t w):=by
 have F0:FrD b rb w (fun _=>True) (Rz b rb t) 112 2 (.slice none 0 0) [] w []:=FrD.start w h.lt hr _ _ (Sf.all _ _) fun u bu=>h.below bu;have hlt:=aHL h;refine enter (F:=FrD b rb w (fun _=>True) (Rz b rb t) 112 2 (.slice none 0 0) []) (fun _=>0) [.pa (fun _=>⟨b,0,none⟩)] [] Tryz.func26 rfl rfl F0 60 rfl ?_;clear F0 h;refine ga env fd plGt ?_;refine dQ 20 _ rfl (by decide) ?_;refine gn 1 env fd plGt ?_;refine gD 11 (.i .i64 (.cv .i64 (.x fun _=>(aB 20 t.1:Nat)))) (.i .i64 (.x fun _=>(aB 20 t.1:Nat))) (fun B=>congrArg (Value.int .i64) (dI (aD 20 _) (by decide))) ?_;refine ga env fd plGt ?_;refine dQ 8 _ rfl (by decide) ?_;refine gn 1 env fd plGt ?_;refine gD 14 (.i .i64 (.cv .i64 (.x fun _=>(aB 8 (nS 20 t).1:Nat)))) (.i .i64 (.x fun _=>(aB 8 (nS 20 t).1:Nat))) (fun B=>congrArg (Value.int .i64) (dI (aD 8 _) (by decide))) ?_;refine ga env fd plGt ?_;refine dQ 7 _ rfl (by decide) ?_;refine gn 1 env fd plGt ?_;refine gD 17 (.i .i64 (.cv .i64 (.x fun _=>(aB 7 (nS 8 (nS 20 t)).1:Nat)))) (.i .i64 (.x fun _=>(aB 7 (nS 8 (nS 20 t)).1:Nat))) (fun B=>congrArg (Value.int .i64) (dI (aD 7 _) (by decide))) ?_;refine ga env fd plGt ?_;refine vS ?_;refine ga env fd plGt ?_;refine dQ ALL _ rfl (by decide) ?_;refine ga env fd plGt ?_;refine bIi ?_;have hR:gC t=gC t:=rfl
 conv at hR=>rhs;unfold gC
 unfold vE;rw[hR];clear hR;generalize aB 20 t.1=xk;generalize aB 8 (nS 20 t).1=xw;generalize aB 7 (nS 8 (nS 20 t)).1=xt;generalize eU (nS 7 (nS 8 (nS 20 t))).1=xn;generalize aB ALL (iS (nS 7 (nS 8 (nS 20 t)))).1=xi;have h5:∀c ∈ dR 2048 (gA t).1,c<256:=fun c hc=>hlt c (gT (gT (gT (uJ (gT (rJ c hc))))));generalize hs5:gA t=s5 at h5 ⊢;unfold gA at hs5;rw[hs5];clear hs5;have hC:fE s5=fE s5:=rfl
 conv at hC=>rhs;unfold fE
 have hl5:=vZ 2048 s5.1;generalize hT:dR 2048 s5.1=T at hC h5 hl5 ⊢;clear hT hlt;refine ga env fd plGt ?_;refine⟨fun q=>?_,fun q=>?_⟩
 ·have h0:T ≠ []:=fun e=>by
   subst e;have q:(!((eD []).toList==(eD []).toList))=true:=q;rw[lT rfl]at q;cases q
  clear q;rw[if_neg h0]at hC;refine ga env fd plGt ?_;refine aJA T _ h5 (Nat.le_trans hl5 (by decide)) h0 ?_;intro ta tc kb hkb;refine ga env fd plGt ?_;intro B v F;refine(qY F.now.1.1 (.inr hkb) F.now.1.2).mono ?_;rintro e w2 ⟨A,rfl,hs,hb⟩;generalize hCR:iG T=cr at hC hs ⊢;obtain⟨C,e⟩:=cr;refine⟨.t [.g (jC (.x fun _=>C.k) C A),.i .i64 (.x fun _=>e)],_,rfl,fd.b,F.gG hb hs,?_⟩;clear F hb hs hCR;refine ga env fd plGt ?_;refine⟨fun q=>?_,fun q=>?_⟩
  ·have h1:¬e=0:=by simpa [BE.den,cmpB,IE.den] using q
   clear q;rw[if_neg h1]at hC;refine ga env fd plGt ?_;refine nV ?_;refine ga env fd plGt ?_;refine dQ 16 _ rfl (by decide) ?_;refine ga env fd plGt ?_;rw[hC];have hN:aB 16 (([],true):RS).1<=16:=aD _ _;have hA:gX (([],true):RS)=prS 65535 4294967295 (aB 16 (([],true):RS).1) (nS 16 (([],true):RS)):=rfl;simp only;generalize gX (([],true):RS)=at7 at hA ⊢;generalize aB 16 (([],true):RS).1=N at hN hA ⊢;generalize nS 16 (([],true):RS)=t8 at hA ⊢;refine eG (fun i:PI 65535 4294967295 N t8=>FrD b rb w (fun u=>aN u C A/\(Bytes u (.slice ta T.length tc) T/\kb<u.heap.size)/\True) (Rz b rb i.t) 112 2 (.slice i.a i.j i.c) (i.L.map trV)) (fun i=>⟨mkT i.x (qQ b N i) 0 61,[mY (.x fun _=>(xk:Int)) (.x fun _=>(xw:Int)) (.x fun _=>xn) (.x fun _=>(xt:Int)) (.x fun _=>(xi:Int)) C A (.sl (fun _=>i.a) (fun _=>i.j) (fun _=>i.c))]⟩) (fun i=>N-i.j) 61 (fun B w1 F=>?_) ?_
   ·exact⟨PI.zero _ _ _ _ _,qQ b N (PI.zero 65535 4294967295 N t8 fun _=>undef),rfl,⟨rfl,rfl,rfl,rfl,rfl,trivial⟩,FrD.less (L:=[(B 0,_)]) F⟩
   intro i J hJ;refine ga env fd plGt ?_;refine⟨fun q=>?_,fun q=>?_⟩
   ·have hlt:i.j<N:=by simpa [BE.den,cmpB,IE.den] using q
    clear q;refine ga env fd plGt ?_;refine dQ 65535 _ rfl (by decide) ?_;refine ga env fd plGt ?_;refine dQ 4294967295 _ rfl (by decide) ?_;refine ga env fd plGt ?_;have hlen:(i.L.map trV).length=i.j:=by rw[List.length_map,i.hL]
    refine jG lU hlen (Nat.le_trans (Nat.le_of_lt hlt) (Nat.le_trans hN (by decide))) ?_;intro a' g c';refine ga env fd plGt ?_;refine fH 61 hJ (fun B v F=>?_);refine⟨i.next hlt a' c' _,qQ b N (i.next hlt a' c' fun _=>undef),by show N-(i.j+1)<N-i.j;omega,rfl,⟨rfl,rfl,rfl,rfl,?_,trivial⟩,?_⟩
    ·simp only[AV.den,IE.den,getT];rw[show ((i.j:Nat):Int)+1=((i.j+1:Nat):Int) from rfl,wrU (by omega)];rfl
    ·have e:(i.next hlt a' c' (fun _=>undef)).L.map trV=i.L.map trV ++ [AV.denL (fun _=>0) [.i .u16 (.cv .u16 (.x fun _=>(aB 65535 i.t.1:Nat))),.i .u32 (.cv .u32 (.x fun _=>(aB 4294967295 (nS 65535 i.t).1:Nat)))]]:=by
      simp only[PI.next,List.map_append,List.map_cons,List.map_nil,trV,AV.denL,AV.den,IE.den];rw[yB (aD 65535 _),yC (aD 4294967295 _)]
     show FrD b rb w (fun u=>aN u C A/\(Bytes u (.slice ta T.length tc) T/\kb<u.heap.size)/\True) (Rz b rb (nS 4294967295 (nS 65535 i.t))) 112 2 (.slice a' (i.j+1) c') ((i.next hlt a' c' (fun _=>undef)).L.map trV) v _;rw[e];exact F
   have hje:i.j=N:=by
    have:¬i.j<N:=by simpa [BE.den,cmpB,IE.den] using q
    have:=i.hj;omega
   clear q hJ;obtain⟨hl,ht⟩:=i.last hje;rw[<- hA]at hl ht;have hjl:=i.hL;rw[ht,hl,<- hjl,hl];have hN2:at7.1.length<=16:=by rw[<- hl,hjl,hje];exact hN
   generalize i.a=a0;generalize i.c=c0;clear hl ht hjl hje hA hN;refine ga env fd plGt ?_;refine fa env fd ?_;intro B v F;have F:=F.kE 112 2;exact⟨⟨A,a0,at7.1.length,c0⟩,rfl,F.old.imp fun u h=>⟨h.2.1,aV.dF h.1,rfl,Nat.le_trans hN2 (by decide)⟩,F.z,F.kept⟩
  have h1:e=0:=by simpa [BE.den,cmpB,IE.den] using q
  clear q;rw[if_pos h1]at hC;refine ga env fd plGt ?_;refine dQ 16 _ rfl (by decide) ?_;refine ga env fd plGt ?_;rw[hC];have hN:aB 16 (dJ s5).1<=16:=aD _ _;have hA:gX (dJ s5)=prS 65535 4294967295 (aB 16 (dJ s5).1) (nS 16 (dJ s5)):=rfl;simp only;generalize gX (dJ s5)=at7 at hA ⊢;generalize aB 16 (dJ s5).1=N at hN hA ⊢;generalize nS 16 (dJ s5)=t8 at hA ⊢;refine eG (fun i:PI 65535 4294967295 N t8=>FrD b rb w (fun u=>aN u C A/\(Bytes u (.slice ta T.length tc) T/\kb<u.heap.size)/\True) (Rz b rb i.t) 112 2 (.slice i.a i.j i.c) (i.L.map trV)) (fun i=>⟨mkT i.x (qQ b N i) 0 61,[mY (.x fun _=>(xk:Int)) (.x fun _=>(xw:Int)) (.x fun _=>xn) (.x fun _=>(xt:Int)) (.x fun _=>(xi:Int)) C A (.sl (fun _=>i.a) (fun _=>i.j) (fun _=>i.c))]⟩) (fun i=>N-i.j) 61 (fun B w1 F=>?_) ?_
  ·exact⟨PI.zero _ _ _ _ _,qQ b N (PI.zero 65535 4294967295 N t8 fun _=>undef),rfl,⟨rfl,rfl,rfl,rfl,rfl,trivial⟩,FrD.less (L:=[(B 0,_)]) F⟩
  intro i J hJ;refine ga env fd plGt ?_;refine⟨fun q=>?_,fun q=>?_⟩
  ·have hlt:i.j<N:=by simpa [BE.den,cmpB,IE.den] using q
   clear q;refine ga env fd plGt ?_;refine dQ 65535 _ rfl (by decide) ?_;refine ga env fd plGt ?_;refine dQ 4294967295 _ rfl (by decide) ?_;refine ga env fd plGt ?_;have hlen:(i.L.map trV).length=i.j:=by rw[List.length_map,i.hL]
   refine jG lU hlen (Nat.le_trans (Nat.le_of_lt hlt) (Nat.le_trans hN (by decide))) ?_;intro a' g c';refine ga env fd plGt ?_;refine fH 61 hJ (fun B v F=>?_);refine⟨i.next hlt a' c' _,qQ b N (i.next hlt a' c' fun _=>undef),by show N-(i.j+1)<N-i.j;omega,rfl,⟨rfl,rfl,rfl,rfl,?_,trivial⟩,?_⟩
   ·simp only[AV.den,IE.den,getT];rw[show ((i.j:Nat):Int)+1=((i.j+1:Nat):Int) from rfl,wrU (by omega)];rfl
   ·have e:(i.next hlt a' c' (fun _=>undef)).L.map trV=i.L.map trV ++ [AV.denL (fun _=>0) [.i .u16 (.cv .u16 (.x fun _=>(aB 65535 i.t.1:Nat))),.i .u32 (.cv .u32 (.x fun _=>(aB 4294967295 (nS 65535 i.t).1:Nat)))]]:=by
     simp only[PI.next,List.map_append,List.map_cons,List.map_nil,trV,AV.denL,AV.den,IE.den];rw[yB (aD 65535 _),yC (aD 4294967295 _)]
    show FrD b rb w (fun u=>aN u C A/\(Bytes u (.slice ta T.length tc) T/\kb<u.heap.size)/\True) (Rz b rb (nS 4294967295 (nS 65535 i.t))) 112 2 (.slice a' (i.j+1) c') ((i.next hlt a' c' (fun _=>undef)).L.map trV) v _;rw[e];exact F
  have hje:i.j=N:=by
   have:¬i.j<N:=by simpa [BE.den,cmpB,IE.den] using q
   have:=i.hj;omega
  clear q hJ;obtain⟨hl,ht⟩:=i.last hje;rw[<- hA]at hl ht;have hjl:=i.hL;rw[ht,hl,<- hjl,hl];have hN2:at7.1.length<=16:=by rw[<- hl,hjl,hje];exact hN
  generalize i.a=a0;generalize i.c=c0;clear hl ht hjl hje hA hN;refine ga env fd plGt ?_;refine fa env fd ?_;intro B v F;have F:=F.kE 112 2;exact⟨⟨A,a0,at7.1.length,c0⟩,rfl,F.old.imp fun u h=>⟨h.2.1,aV.dF h.1,rfl,Nat.le_trans hN2 (by decide)⟩,F.z,F.kept⟩
 have h0:T = []:=by
  by_cases h0:T = []
  ·exact h0
  ·have q:(!((eD T).toList==(eD []).toList))=false:=q;rw[vA (fun e=>h0 (oN h5 nofun e))]at q;cases q
 clear q;rw[if_pos h0]at hC;refine ga env fd plGt ?_;refine dQ 16 _ rfl (by decide) ?_;refine ga env fd plGt ?_;rw[hC];have hN:aB 16 (dJ s5).1<=16:=aD _ _;have hA:gX (dJ s5)=prS 65535 4294967295 (aB 16 (dJ s5).1) (nS 16 (dJ s5)):=rfl;simp only;generalize gX (dJ s5)=at7 at hA ⊢;generalize aB 16 (dJ s5).1=N at hN hA ⊢;generalize nS 16 (dJ s5)=t8 at hA ⊢;refine eG (fun i:PI 65535 4294967295 N t8=>FrD b rb w (fun u=>True) (Rz b rb i.t) 112 2 (.slice i.a i.j i.c) (i.L.map trV)) (fun i=>⟨mkT i.x (qQ b N i) 0 61,[mY (.x fun _=>(xk:Int)) (.x fun _=>(xw:Int)) (.x fun _=>xn) (.x fun _=>(xt:Int)) (.x fun _=>(xi:Int)) fR cG (.sl (fun _=>i.a) (fun _=>i.j) (fun _=>i.c))]⟩) (fun i=>N-i.j) 61 (fun B w1 F=>?_) ?_
 ·exact⟨PI.zero _ _ _ _ _,qQ b N (PI.zero 65535 4294967295 N t8 fun _=>undef),rfl,⟨rfl,rfl,rfl,rfl,rfl,trivial⟩,F⟩
 intro i J hJ;refine ga env fd plGt ?_;refine⟨fun q=>?_,fun q=>?_⟩
 ·have hlt:i.j<N:=by simpa [BE.den,cmpB,IE.den] using q
  clear q;refine ga env fd plGt ?_;refine dQ 65535 _ rfl (by decide) ?_;refine ga env fd plGt ?_;refine dQ 4294967295 _ rfl (by decide) ?_;refine ga env fd plGt ?_;have hlen:(i.L.map trV).length=i.j:=by rw[List.length_map,i.hL]
  refine jG lU hlen (Nat.le_trans (Nat.le_of_lt hlt) (Nat.le_trans hN (by decide))) ?_;intro a' g c';refine ga env fd plGt ?_;refine fH 61 hJ (fun B v F=>?_);refine⟨i.next hlt a' c' _,qQ b N (i.next hlt a' c' fun _=>undef),by show N-(i.j+1)<N-i.j;omega,rfl,⟨rfl,rfl,rfl,rfl,?_,trivial⟩,?_⟩
  ·simp only[AV.den,IE.den,getT];rw[show ((i.j:Nat):Int)+1=((i.j+1:Nat):Int) from rfl,wrU (by omega)];rfl
  ·have e:(i.next hlt a' c' (fun _=>undef)).L.map trV=i.L.map trV ++ [AV.denL (fun _=>0) [.i .u16 (.cv .u16 (.x fun _=>(aB 65535 i.t.1:Nat))),.i .u32 (.cv .u32 (.x fun _=>(aB 4294967295 (nS 65535 i.t).1:Nat)))]]:=by
    simp only[PI.next,List.map_append,List.map_cons,List.map_nil,trV,AV.denL,AV.den,IE.den];rw[yB (aD 65535 _),yC (aD 4294967295 _)]
   show FrD b rb w (fun u=>True) (Rz b rb (nS 4294967295 (nS 65535 i.t))) 112 2 (.slice a' (i.j+1) c') ((i.next hlt a' c' (fun _=>undef)).L.map trV) v _;rw[e];exact F
 have hje:i.j=N:=by
  have:¬i.j<N:=by simpa [BE.den,cmpB,IE.den] using q
  have:=i.hj;omega
 clear q hJ;obtain⟨hl,ht⟩:=i.last hje;rw[<- hA]at hl ht;have hjl:=i.hL;rw[ht,hl,<- hjl,hl];have hN2:at7.1.length<=16:=by rw[<- hl,hjl,hje];exact hN
 generalize i.a=a0;generalize i.c=c0;clear hl ht hjl hje hA hN;refine ga env fd plGt ?_;refine fa env fd ?_;intro B v F;have F:=F.kE 112 2;exact⟨⟨cG,a0,at7.1.length,c0⟩,rfl,F.old.imp fun u h=>⟨aN.zero u,aV.dF h.1,rfl,Nat.le_trans hN2 (by decide)⟩,F.z,F.kept⟩
theorem aHN {b rb:Nat}{w:World}{t:RS}(h:aF w b rb t.1 t.2)(hr:rb<w.heap.size):Calls Tryz.prog 31 #[.pointer (some ⟨b,0,none⟩)] w (vE b rb t w):=by
 have F0:FrD b rb w (fun _=>True) (Rz b rb t) 121 2 (.slice none 0 0) [] w []:=FrD.start w h.lt hr _ _ (Sf.all _ _) fun u bu=>h.below bu;have hlt:=aHL h;refine enter (F:=FrD b rb w (fun _=>True) (Rz b rb t) 121 2 (.slice none 0 0) []) (fun _=>0) [.pa (fun _=>⟨b,0,none⟩)] [] Tryz.func31 rfl rfl F0 66 rfl ?_;clear F0 h;refine ga env fd aA ?_;refine cL 20 _ rfl (by decide) ?_;refine gn 1 env fd aA ?_;refine gD 12 (.i .i64 (.cv .i64 (.x fun _=>(aB 20 t.1:Nat)))) (.i .i64 (.x fun _=>(aB 20 t.1:Nat))) (fun B=>congrArg (Value.int .i64) (dI (aD 20 _) (by decide))) ?_;refine ga env fd aA ?_;refine cL 8 _ rfl (by decide) ?_;refine gn 1 env fd aA ?_;refine gD 16 (.i .i64 (.cv .i64 (.x fun _=>(aB 8 (nS 20 t).1:Nat)))) (.i .i64 (.x fun _=>(aB 8 (nS 20 t).1:Nat))) (fun B=>congrArg (Value.int .i64) (dI (aD 8 _) (by decide))) ?_;refine ga env fd aA ?_;refine cL 7 _ rfl (by decide) ?_;refine gn 1 env fd aA ?_;refine gD 20 (.i .i64 (.cv .i64 (.x fun _=>(aB 7 (nS 8 (nS 20 t)).1:Nat)))) (.i .i64 (.x fun _=>(aB 7 (nS 8 (nS 20 t)).1:Nat))) (fun B=>congrArg (Value.int .i64) (dI (aD 7 _) (by decide))) ?_;refine ga env fd aA ?_;refine vT ?_;refine ga env fd aA ?_;refine cL ALL _ rfl (by decide) ?_;refine ga env fd aA ?_;refine bIj ?_;have hR:gC t=gC t:=rfl
 conv at hR=>rhs;unfold gC
 unfold vE;rw[hR];clear hR;generalize aB 20 t.1=xk;generalize aB 8 (nS 20 t).1=xw;generalize aB 7 (nS 8 (nS 20 t)).1=xt;generalize eU (nS 7 (nS 8 (nS 20 t))).1=xn;generalize aB ALL (iS (nS 7 (nS 8 (nS 20 t)))).1=xi;have h5:∀c ∈ dR 2048 (gA t).1,c<256:=fun c hc=>hlt c (gT (gT (gT (uJ (gT (rJ c hc))))));generalize hs5:gA t=s5 at h5 ⊢;unfold gA at hs5;rw[hs5];clear hs5;have hC:fE s5=fE s5:=rfl
 conv at hC=>rhs;unfold fE
 have hl5:=vZ 2048 s5.1;generalize hT:dR 2048 s5.1=T at hC h5 hl5 ⊢;clear hT hlt;refine ga env fd aA ?_;refine⟨fun q=>?_,fun q=>?_⟩
 ·have h0:T ≠ []:=fun e=>by
   subst e;have q:(!((eD []).toList==(eD []).toList))=true:=q;rw[lT rfl]at q;cases q
  clear q;rw[if_neg h0]at hC;refine ga env fd aA ?_;refine aJA T _ h5 (Nat.le_trans hl5 (by decide)) h0 ?_;intro ta tc kb hkb;refine ga env fd aA ?_;intro B v F;refine(rE F.now.1.1 (.inr hkb) F.now.1.2).mono ?_;rintro e w2 ⟨A,rfl,hs,hb⟩;generalize hCR:iG T=cr at hC hs ⊢;obtain⟨C,e⟩:=cr;refine⟨.t [.g (jC (.x fun _=>C.k) C A),.i .i64 (.x fun _=>e)],_,rfl,fd.b,F.gG hb hs,?_⟩;clear F hb hs hCR;refine ga env fd aA ?_;refine⟨fun q=>?_,fun q=>?_⟩
  ·have h1:¬e=0:=by simpa [BE.den,cmpB,IE.den] using q
   clear q;rw[if_neg h1]at hC;refine ga env fd aA ?_;refine nX ?_;refine ga env fd aA ?_;refine cL 16 _ rfl (by decide) ?_;refine gn 1 env fd aA ?_;refine gD 46 (.i .i64 (.cv .i64 (.x fun _=>(aB 16 (([],true):RS).1:Nat)))) (.i .i64 (.x fun _=>(aB 16 (([],true):RS).1:Nat))) (fun B=>congrArg (Value.int .i64) (dI (aD 16 _) (by decide))) ?_;refine ga env fd aA ?_;rw[hC];have hN:aB 16 (([],true):RS).1<=16:=aD _ _;have hA:gX (([],true):RS)=prS 65535 4294967295 (aB 16 (([],true):RS).1) (nS 16 (([],true):RS)):=rfl;simp only;generalize gX (([],true):RS)=at7 at hA ⊢;generalize aB 16 (([],true):RS).1=N at hN hA ⊢;generalize nS 16 (([],true):RS)=t8 at hA ⊢;refine eG (fun i:PI 65535 4294967295 N t8=>FrD b rb w (fun u=>aN u C A/\(Bytes u (.slice ta T.length tc) T/\kb<u.heap.size)/\True) (Rz b rb i.t) 121 2 (.slice i.a i.j i.c) (i.L.map trV)) (fun i=>⟨mkT i.x (getD b N i) 0 67,[yL,mY (.x fun _=>(xk:Int)) (.x fun _=>(xw:Int)) (.x fun _=>xn) (.x fun _=>(xt:Int)) (.x fun _=>(xi:Int)) C A (.sl (fun _=>i.a) (fun _=>i.j) (fun _=>i.c))]⟩) (fun i=>N-i.j) 67 (fun B w1 F=>?_) ?_
   ·exact⟨PI.zero _ _ _ _ _,getD b N (PI.zero 65535 4294967295 N t8 fun _=>undef),rfl,⟨rfl,rfl,rfl,rfl,rfl,trivial⟩,FrD.less (L:=[(B 0,_),(B 1,_)]) F⟩
   intro i J hJ;refine ga env fd aA ?_;refine⟨fun q=>?_,fun q=>?_⟩
   ·have hlt:i.j<N:=by simpa [BE.den,cmpB,IE.den] using q
    clear q;refine ga env fd aA ?_;refine cL 65535 _ rfl (by decide) ?_;refine ga env fd aA ?_;refine cL 4294967295 _ rfl (by decide) ?_;refine ga env fd aA ?_;have hlen:(i.L.map trV).length=i.j:=by rw[List.length_map,i.hL]
    refine nA iY hlen (Nat.le_trans (Nat.le_of_lt hlt) (Nat.le_trans hN (by decide))) ?_;intro a' g c';refine ga env fd aA ?_;refine fH 67 hJ (fun B v F=>?_);refine⟨i.next hlt a' c' _,getD b N (i.next hlt a' c' fun _=>undef),by show N-(i.j+1)<N-i.j;omega,rfl,⟨rfl,rfl,rfl,rfl,?_,trivial⟩,?_⟩
    ·simp only[AV.den,IE.den,getT];rw[show ((i.j:Nat):Int)+1=((i.j+1:Nat):Int) from rfl,dI (Nat.le_refl _) (by omega)];rfl
    ·have e:(i.next hlt a' c' (fun _=>undef)).L.map trV=i.L.map trV ++ [AV.denL (fun _=>0) [.i .u16 (.cv .u16 (.x fun _=>(aB 65535 i.t.1:Nat))),.i .u32 (.cv .u32 (.x fun _=>(aB 4294967295 (nS 65535 i.t).1:Nat)))]]:=by
      simp only[PI.next,List.map_append,List.map_cons,List.map_nil,trV,AV.denL,AV.den,IE.den];rw[yB (aD 65535 _),yC (aD 4294967295 _)]
     show FrD b rb w (fun u=>aN u C A/\(Bytes u (.slice ta T.length tc) T/\kb<u.heap.size)/\True) (Rz b rb (nS 4294967295 (nS 65535 i.t))) 121 2 (.slice a' (i.j+1) c') ((i.next hlt a' c' (fun _=>undef)).L.map trV) v _;rw[e];exact FrD.less (L:=[(B 0,_),(B 1,_)]) F
   have hje:i.j=N:=by
    have:¬i.j<N:=by simpa [BE.den,cmpB,IE.den] using q
    have:=i.hj;omega
   clear q hJ;obtain⟨hl,ht⟩:=i.last hje;rw[<- hA]at hl ht;have hjl:=i.hL;rw[ht,hl,<- hjl,hl];have hN2:at7.1.length<=16:=by rw[<- hl,hjl,hje];exact hN
   generalize i.a=a0;generalize i.c=c0;clear hl ht hjl hje hA hN;refine ga env fd aA ?_;refine fa env fd ?_;intro B v F;have F:=F.kE 121 2;exact⟨⟨A,a0,at7.1.length,c0⟩,rfl,F.old.imp fun u h=>⟨h.2.1,aV.dF h.1,rfl,Nat.le_trans hN2 (by decide)⟩,F.z,F.kept⟩
  have h1:e=0:=by simpa [BE.den,cmpB,IE.den] using q
  clear q;rw[if_pos h1]at hC;refine ga env fd aA ?_;refine cL 16 _ rfl (by decide) ?_;refine gn 1 env fd aA ?_;refine gD 46 (.i .i64 (.cv .i64 (.x fun _=>(aB 16 (dJ s5).1:Nat)))) (.i .i64 (.x fun _=>(aB 16 (dJ s5).1:Nat))) (fun B=>congrArg (Value.int .i64) (dI (aD 16 _) (by decide))) ?_;refine ga env fd aA ?_;rw[hC];have hN:aB 16 (dJ s5).1<=16:=aD _ _;have hA:gX (dJ s5)=prS 65535 4294967295 (aB 16 (dJ s5).1) (nS 16 (dJ s5)):=rfl;simp only;generalize gX (dJ s5)=at7 at hA ⊢;generalize aB 16 (dJ s5).1=N at hN hA ⊢;generalize nS 16 (dJ s5)=t8 at hA ⊢;refine eG (fun i:PI 65535 4294967295 N t8=>FrD b rb w (fun u=>aN u C A/\(Bytes u (.slice ta T.length tc) T/\kb<u.heap.size)/\True) (Rz b rb i.t) 121 2 (.slice i.a i.j i.c) (i.L.map trV)) (fun i=>⟨mkT i.x (getD b N i) 0 67,[yL,mY (.x fun _=>(xk:Int)) (.x fun _=>(xw:Int)) (.x fun _=>xn) (.x fun _=>(xt:Int)) (.x fun _=>(xi:Int)) C A (.sl (fun _=>i.a) (fun _=>i.j) (fun _=>i.c))]⟩) (fun i=>N-i.j) 67 (fun B w1 F=>?_) ?_
  ·exact⟨PI.zero _ _ _ _ _,getD b N (PI.zero 65535 4294967295 N t8 fun _=>undef),rfl,⟨rfl,rfl,rfl,rfl,rfl,trivial⟩,FrD.less (L:=[(B 0,_),(B 1,_)]) F⟩
  intro i J hJ;refine ga env fd aA ?_;refine⟨fun q=>?_,fun q=>?_⟩
  ·have hlt:i.j<N:=by simpa [BE.den,cmpB,IE.den] using q
   clear q;refine ga env fd aA ?_;refine cL 65535 _ rfl (by decide) ?_;refine ga env fd aA ?_;refine cL 4294967295 _ rfl (by decide) ?_;refine ga env fd aA ?_;have hlen:(i.L.map trV).length=i.j:=by rw[List.length_map,i.hL]
   refine nA iY hlen (Nat.le_trans (Nat.le_of_lt hlt) (Nat.le_trans hN (by decide))) ?_;intro a' g c';refine ga env fd aA ?_;refine fH 67 hJ (fun B v F=>?_);refine⟨i.next hlt a' c' _,getD b N (i.next hlt a' c' fun _=>undef),by show N-(i.j+1)<N-i.j;omega,rfl,⟨rfl,rfl,rfl,rfl,?_,trivial⟩,?_⟩
   ·simp only[AV.den,IE.den,getT];rw[show ((i.j:Nat):Int)+1=((i.j+1:Nat):Int) from rfl,dI (Nat.le_refl _) (by omega)];rfl
   ·have e:(i.next hlt a' c' (fun _=>undef)).L.map trV=i.L.map trV ++ [AV.denL (fun _=>0) [.i .u16 (.cv .u16 (.x fun _=>(aB 65535 i.t.1:Nat))),.i .u32 (.cv .u32 (.x fun _=>(aB 4294967295 (nS 65535 i.t).1:Nat)))]]:=by
     simp only[PI.next,List.map_append,List.map_cons,List.map_nil,trV,AV.denL,AV.den,IE.den];rw[yB (aD 65535 _),yC (aD 4294967295 _)]
    show FrD b rb w (fun u=>aN u C A/\(Bytes u (.slice ta T.length tc) T/\kb<u.heap.size)/\True) (Rz b rb (nS 4294967295 (nS 65535 i.t))) 121 2 (.slice a' (i.j+1) c') ((i.next hlt a' c' (fun _=>undef)).L.map trV) v _;rw[e];exact FrD.less (L:=[(B 0,_),(B 1,_)]) F
  have hje:i.j=N:=by
   have:¬i.j<N:=by simpa [BE.den,cmpB,IE.den] using q
   have:=i.hj;omega
  clear q hJ;obtain⟨hl,ht⟩:=i.last hje;rw[<- hA]at hl ht;have hjl:=i.hL;rw[ht,hl,<- hjl,hl];have hN2:at7.1.length<=16:=by rw[<- hl,hjl,hje];exact hN
  generalize i.a=a0;generalize i.c=c0;clear hl ht hjl hje hA hN;refine ga env fd aA ?_;refine fa env fd ?_;intro B v F;have F:=F.kE 121 2;exact⟨⟨A,a0,at7.1.length,c0⟩,rfl,F.old.imp fun u h=>⟨h.2.1,aV.dF h.1,rfl,Nat.le_trans hN2 (by decide)⟩,F.z,F.kept⟩
 have h0:T = []:=by
  by_cases h0:T = []
  ·exact h0
  ·have q:(!((eD T).toList==(eD []).toList))=false:=q;rw[vA (fun e=>h0 (oN h5 nofun e))]at q;cases q
 clear q;rw[if_pos h0]at hC;refine ga env fd aA ?_;refine cL 16 _ rfl (by decide) ?_;refine gn 1 env fd aA ?_;refine gD 46 (.i .i64 (.cv .i64 (.x fun _=>(aB 16 (dJ s5).1:Nat)))) (.i .i64 (.x fun _=>(aB 16 (dJ s5).1:Nat))) (fun B=>congrArg (Value.int .i64) (dI (aD 16 _) (by decide))) ?_;refine ga env fd aA ?_;rw[hC];have hN:aB 16 (dJ s5).1<=16:=aD _ _;have hA:gX (dJ s5)=prS 65535 4294967295 (aB 16 (dJ s5).1) (nS 16 (dJ s5)):=rfl;simp only;generalize gX (dJ s5)=at7 at hA ⊢;generalize aB 16 (dJ s5).1=N at hN hA ⊢;generalize nS 16 (dJ s5)=t8 at hA ⊢;refine eG (fun i:PI 65535 4294967295 N t8=>FrD b rb w (fun u=>True) (Rz b rb i.t) 121 2 (.slice i.a i.j i.c) (i.L.map trV)) (fun i=>⟨mkT i.x (getD b N i) 0 67,[yL,mY (.x fun _=>(xk:Int)) (.x fun _=>(xw:Int)) (.x fun _=>xn) (.x fun _=>(xt:Int)) (.x fun _=>(xi:Int)) fR cG (.sl (fun _=>i.a) (fun _=>i.j) (fun _=>i.c))]⟩) (fun i=>N-i.j) 67 (fun B w1 F=>?_) ?_
 ·exact⟨PI.zero _ _ _ _ _,getD b N (PI.zero 65535 4294967295 N t8 fun _=>undef),rfl,⟨rfl,rfl,rfl,rfl,rfl,trivial⟩,F⟩
 intro i J hJ;refine ga env fd aA ?_;refine⟨fun q=>?_,fun q=>?_⟩
 ·have hlt:i.j<N:=by simpa [BE.den,cmpB,IE.den] using q
  clear q;refine ga env fd aA ?_;refine cL 65535 _ rfl (by decide) ?_;refine ga env fd aA ?_;refine cL 4294967295 _ rfl (by decide) ?_;refine ga env fd aA ?_;have hlen:(i.L.map trV).length=i.j:=by rw[List.length_map,i.hL]
  refine nA iY hlen (Nat.le_trans (Nat.le_of_lt hlt) (Nat.le_trans hN (by decide))) ?_;intro a' g c';refine ga env fd aA ?_;refine fH 67 hJ (fun B v F=>?_);refine⟨i.next hlt a' c' _,getD b N (i.next hlt a' c' fun _=>undef),by show N-(i.j+1)<N-i.j;omega,rfl,⟨rfl,rfl,rfl,rfl,?_,trivial⟩,?_⟩
  ·simp only[AV.den,IE.den,getT];rw[show ((i.j:Nat):Int)+1=((i.j+1:Nat):Int) from rfl,dI (Nat.le_refl _) (by omega)];rfl
  ·have e:(i.next hlt a' c' (fun _=>undef)).L.map trV=i.L.map trV ++ [AV.denL (fun _=>0) [.i .u16 (.cv .u16 (.x fun _=>(aB 65535 i.t.1:Nat))),.i .u32 (.cv .u32 (.x fun _=>(aB 4294967295 (nS 65535 i.t).1:Nat)))]]:=by
    simp only[PI.next,List.map_append,List.map_cons,List.map_nil,trV,AV.denL,AV.den,IE.den];rw[yB (aD 65535 _),yC (aD 4294967295 _)]
   show FrD b rb w (fun u=>True) (Rz b rb (nS 4294967295 (nS 65535 i.t))) 121 2 (.slice a' (i.j+1) c') ((i.next hlt a' c' (fun _=>undef)).L.map trV) v _;rw[e];exact FrD.less (L:=[(B 0,_),(B 1,_)]) F
 have hje:i.j=N:=by
  have:¬i.j<N:=by simpa [BE.den,cmpB,IE.den] using q
  have:=i.hj;omega
 clear q hJ;obtain⟨hl,ht⟩:=i.last hje;rw[<- hA]at hl ht;have hjl:=i.hL;rw[ht,hl,<- hjl,hl];have hN2:at7.1.length<=16:=by rw[<- hl,hjl,hje];exact hN
 generalize i.a=a0;generalize i.c=c0;clear hl ht hjl hje hA hN;refine ga env fd aA ?_;refine fa env fd ?_;intro B v F;have F:=F.kE 121 2;exact⟨⟨cG,a0,at7.1.length,c0⟩,rfl,F.old.imp fun u h=>⟨aN.zero u,aV.dF h.1,rfl,Nat.le_trans hN2 (by decide)⟩,F.z,F.kept⟩

def aIk (a:cD):Bool:=decide (1<=a.k/\a.k<=20/\0<=a.who/\a.who<=8/\0<=a.to/\a.to<=7 /\ -1125899906842624<=a.n/\a.n<=1125899906842624/\a.ts.length<=16)
def dO (a:cD):Bool:=aIk a&&(decide (a.com=fR) || bQ a.com)
theorem cC {a:cD}(h:aIk a=false):dO a=false:=by unfold dO;rw[h];rfl
theorem pF {a:cD}(h:aIk a=true):dO a=(decide (a.com=fR) || bQ a.com):=by unfold dO;rw[h];rfl
def eS (a:cD)(A:dN):List AV:=mY (.x fun _=>a.k) (.x fun _=>a.who) (.x fun _=>a.n) (.x fun _=>a.to) (.x fun _=>a.id) a.com A.com (.sl (fun _=>A.ta) (fun _=>A.tn) (fun _=>A.tc))
theorem pT (c:cQ)(A:gO)(w:World)(h:aN w c A):Calls Tryz.prog 84 #[.agg (iJ c A).toArray] w fun e w'=>e = .returned (.bool (decide (c=fR)))/\Below w.heap.size w w':=by
 have F0:Fo [] (fun _=>False) w (fun v=>Below w.heap.size w v/\aN v c A) w []:=Fo.start nofun fun _ bv=>⟨bv,h.below bv⟩;clear h;refine enter (fun _=>0) [.g (jC (.x fun _=>c.k) c A)] [] Tryz.func84 rfl rfl F0 5 rfl ?_;refine ga env (Fo.frm _ _ _ _ 0 rfl) aA ?_;intro B v F;refine(kY c fR A cG v F.now.2 (aN.zero v)).mono ?_;rintro e w2 ⟨rfl,hb⟩;refine⟨.b (.x fun _=>decide (c=fR)),_,rfl,(Fo.frm _ _ _ _ _ rfl).b,F.on hb,?_⟩;clear F hb;refine ga env (Fo.frm _ _ _ _ 1 rfl) aA ?_;refine fa env (Fo.frm _ _ _ _ 1 rfl) ?_;intro B v F;exact⟨rfl,F.now.1⟩
theorem xQ (c:cQ)(A:gO)(w:World)(h:aN w c A):Calls Tryz.prog 55 #[.agg (iJ c A).toArray] w fun e w'=>e = .returned (.bool (decide (c=fR)))/\Below w.heap.size w w':=by
 have F0:Fo [] (fun _=>False) w (fun v=>Below w.heap.size w v/\aN v c A) w []:=Fo.start nofun fun _ bv=>⟨bv,h.below bv⟩;clear h;refine enter (fun _=>0) [.g (jC (.x fun _=>c.k) c A)] [] Tryz.func55 rfl rfl F0 5 rfl ?_;refine ga env (Fo.frm _ _ _ _ 0 rfl) aA ?_;intro B v F;refine(iU c fR A cG v F.now.2 (aN.zero v)).mono ?_;rintro e w2 ⟨rfl,hb⟩;refine⟨.b (.x fun _=>decide (c=fR)),_,rfl,(Fo.frm _ _ _ _ _ rfl).b,F.on hb,?_⟩;clear F hb;refine ga env (Fo.frm _ _ _ _ 1 rfl) aA ?_;refine fa env (Fo.frm _ _ _ _ 1 rfl) ?_;intro B v F;exact⟨rfl,F.now.1⟩
theorem aHo (a:cD)(A:dN)(w:World)(h:bW w a A):Calls Tryz.prog 45 #[.agg (eQ a A).toArray] w fun e w'=>e = .returned (.bool (dO a))/\Below w.heap.size w w':=by
 have F0:Fo [] (fun _=>False) w (fun v=>Below w.heap.size w v/\bW v a A) w []:=Fo.start nofun fun _ bv=>⟨bv,h.below bv⟩;have hn:=h.n;clear h;refine enter (fun _=>0) [.g (eS a A)] [] Tryz.func45 rfl rfl F0 54 rfl ?_;refine ga env (Fo.frm _ _ _ _ 0 rfl) aA ?_;by_cases h1:a.k<1
 ·refine aI 7 true (e:=.cmp .lss (.x fun _=>a.k) (.l 1)) (decide_eq_true h1) ?_;rw[cC (decide_eq_false (fun h=>by omega))];refine ga env (Fo.frm _ _ _ _ 0 rfl) aA ?_;refine fa env (Fo.frm _ _ _ _ 0 rfl) ?_;intro B v F;exact⟨rfl,F.now.1⟩
 refine aI 7 false (e:=.cmp .lss (.x fun _=>a.k) (.l 1)) (decide_eq_false h1) ?_;refine ga env (Fo.frm _ _ _ _ 0 rfl) aA ?_;by_cases h2:a.k > 20
 ·refine aI 12 true (e:=.cmp .gtr (.x fun _=>a.k) (.l 20)) (decide_eq_true h2) ?_;rw[cC (decide_eq_false (fun h=>by omega))];refine ga env (Fo.frm _ _ _ _ 0 rfl) aA ?_;refine fa env (Fo.frm _ _ _ _ 0 rfl) ?_;intro B v F;exact⟨rfl,F.now.1⟩
 refine aI 12 false (e:=.cmp .gtr (.x fun _=>a.k) (.l 20)) (decide_eq_false h2) ?_;refine ga env (Fo.frm _ _ _ _ 0 rfl) aA ?_;by_cases h3:a.who<0
 ·refine aI 17 true (e:=.cmp .lss (.x fun _=>a.who) (.l 0)) (decide_eq_true h3) ?_;rw[cC (decide_eq_false (fun h=>by omega))];refine ga env (Fo.frm _ _ _ _ 0 rfl) aA ?_;refine fa env (Fo.frm _ _ _ _ 0 rfl) ?_;intro B v F;exact⟨rfl,F.now.1⟩
 refine aI 17 false (e:=.cmp .lss (.x fun _=>a.who) (.l 0)) (decide_eq_false h3) ?_;refine ga env (Fo.frm _ _ _ _ 0 rfl) aA ?_;refine⟨fun q=>?_,fun q=>?_⟩
 ·have h4:a.who > 8:=by simpa [BE.den,cmpB,IE.den] using q
  rw[cC (decide_eq_false (fun h=>by omega))];refine ga env (Fo.frm _ _ _ _ 0 rfl) aA ?_;refine fa env (Fo.frm _ _ _ _ 0 rfl) ?_;intro B v F;exact⟨rfl,F.now.1⟩
 have h4:¬a.who > 8:=by simpa [BE.den,cmpB,IE.den] using q
 clear q;refine ga env (Fo.frm _ _ _ _ 0 rfl) aA ?_;by_cases h5:a.to<0
 ·refine aI 26 true (e:=.cmp .lss (.x fun _=>a.to) (.l 0)) (decide_eq_true h5) ?_;rw[cC (decide_eq_false (fun h=>by omega))];refine ga env (Fo.frm _ _ _ _ 0 rfl) aA ?_;refine fa env (Fo.frm _ _ _ _ 0 rfl) ?_;intro B v F;exact⟨rfl,F.now.1⟩
 refine aI 26 false (e:=.cmp .lss (.x fun _=>a.to) (.l 0)) (decide_eq_false h5) ?_;refine ga env (Fo.frm _ _ _ _ 0 rfl) aA ?_;by_cases h6:a.to > 7
 ·refine aI 31 true (e:=.cmp .gtr (.x fun _=>a.to) (.l 7)) (decide_eq_true h6) ?_;rw[cC (decide_eq_false (fun h=>by omega))];refine ga env (Fo.frm _ _ _ _ 0 rfl) aA ?_;refine fa env (Fo.frm _ _ _ _ 0 rfl) ?_;intro B v F;exact⟨rfl,F.now.1⟩
 refine aI 31 false (e:=.cmp .gtr (.x fun _=>a.to) (.l 7)) (decide_eq_false h6) ?_;refine ga env (Fo.frm _ _ _ _ 0 rfl) aA ?_;by_cases h7:a.n < -1125899906842624
 ·refine aI 36 true (e:=.cmp .lss (.x fun _=>a.n) (.l (-1125899906842624))) (decide_eq_true h7) ?_;rw[cC (decide_eq_false (fun h=>by omega))];refine ga env (Fo.frm _ _ _ _ 0 rfl) aA ?_;refine fa env (Fo.frm _ _ _ _ 0 rfl) ?_;intro B v F;exact⟨rfl,F.now.1⟩
 refine aI 36 false (e:=.cmp .lss (.x fun _=>a.n) (.l (-1125899906842624))) (decide_eq_false h7) ?_;refine ga env (Fo.frm _ _ _ _ 0 rfl) aA ?_;by_cases h8:a.n > 1125899906842624
 ·refine aI 41 true (e:=.cmp .gtr (.x fun _=>a.n) (.l 1125899906842624)) (decide_eq_true h8) ?_;rw[cC (decide_eq_false (fun h=>by omega))];refine ga env (Fo.frm _ _ _ _ 0 rfl) aA ?_;refine fa env (Fo.frm _ _ _ _ 0 rfl) ?_;intro B v F;exact⟨rfl,F.now.1⟩
 refine aI 41 false (e:=.cmp .gtr (.x fun _=>a.n) (.l 1125899906842624)) (decide_eq_false h8) ?_;refine ga env (Fo.frm _ _ _ _ 0 rfl) aA ?_;refine⟨fun q=>?_,fun q=>?_⟩
 ·have h9:(A.tn:Int) > 16:=by simpa [BE.den,cmpB,IE.den] using q
  rw[cC (decide_eq_false (fun h=>by omega))];refine ga env (Fo.frm _ _ _ _ 0 rfl) aA ?_;refine fa env (Fo.frm _ _ _ _ 0 rfl) ?_;intro B v F;exact⟨rfl,F.now.1⟩
 have h9:¬(A.tn:Int) > 16:=by simpa [BE.den,cmpB,IE.den] using q
 clear q;refine ga env (Fo.frm _ _ _ _ 0 rfl) aA ?_;rw[pF (decide_eq_true (by omega))];intro B v F;refine(pT a.com A.com v F.now.2.com).mono ?_;rintro e w2 ⟨rfl,hb⟩;cases hz:decide (a.com=fR) with
 | true =>
  refine⟨.b (.l true),_,rfl,(Fo.frm _ _ _ _ _ rfl).b,F.on hb,?_⟩;clear F hb;refine ga env (Fo.frm _ _ _ _ 1 rfl) aA ?_;refine fa env (Fo.frm _ _ _ _ 1 rfl) ?_;intro B v F;exact⟨rfl,F.now.1⟩
 | false =>
 refine⟨.b (.l false),_,rfl,(Fo.frm _ _ _ _ _ rfl).b,F.on hb,?_⟩;clear F hb;refine ga env (Fo.frm _ _ _ _ 1 rfl) aA ?_;intro B v F;refine(cI a.com A.com v F.now.2.com).mono ?_;rintro e w2 ⟨rfl,hb⟩;refine⟨.b (.x fun _=>bQ a.com),_,rfl,(Fo.frm _ _ _ _ _ rfl).b,F.on hb,?_⟩;clear F hb;refine ga env (Fo.frm _ _ _ _ 1 rfl) aA ?_;refine fa env (Fo.frm _ _ _ _ 1 rfl) ?_;intro B v F;exact⟨rfl,F.now.1⟩
theorem aHJ (a:cD)(A:dN)(w:World)(h:bW w a A):Calls Tryz.prog 47 #[.agg (eQ a A).toArray] w fun e w'=>e = .returned (.bool (dO a))/\Below w.heap.size w w':=by
 have F0:Fo [] (fun _=>False) w (fun v=>Below w.heap.size w v/\bW v a A) w []:=Fo.start nofun fun _ bv=>⟨bv,h.below bv⟩;have hn:=h.n;clear h;refine enter (fun _=>0) [.g (eS a A)] [] Tryz.func47 rfl rfl F0 54 rfl ?_;refine ga env (Fo.frm _ _ _ _ 0 rfl) aA ?_;by_cases h1:a.k<1
 ·refine aI 6 true (e:=.cmp .lss (.x fun _=>a.k) (.l 1)) (decide_eq_true h1) ?_;rw[cC (decide_eq_false (fun h=>by omega))];refine ga env (Fo.frm _ _ _ _ 0 rfl) aA ?_;refine fa env (Fo.frm _ _ _ _ 0 rfl) ?_;intro B v F;exact⟨rfl,F.now.1⟩
 refine aI 6 false (e:=.cmp .lss (.x fun _=>a.k) (.l 1)) (decide_eq_false h1) ?_;refine ga env (Fo.frm _ _ _ _ 0 rfl) aA ?_;by_cases h2:a.k > 20
 ·refine aI 11 true (e:=.cmp .gtr (.x fun _=>a.k) (.l 20)) (decide_eq_true h2) ?_;rw[cC (decide_eq_false (fun h=>by omega))];refine ga env (Fo.frm _ _ _ _ 0 rfl) aA ?_;refine fa env (Fo.frm _ _ _ _ 0 rfl) ?_;intro B v F;exact⟨rfl,F.now.1⟩
 refine aI 11 false (e:=.cmp .gtr (.x fun _=>a.k) (.l 20)) (decide_eq_false h2) ?_;refine ga env (Fo.frm _ _ _ _ 0 rfl) aA ?_;by_cases h3:a.who<0
 ·refine aI 16 true (e:=.cmp .lss (.x fun _=>a.who) (.l 0)) (decide_eq_true h3) ?_;rw[cC (decide_eq_false (fun h=>by omega))];refine ga env (Fo.frm _ _ _ _ 0 rfl) aA ?_;refine fa env (Fo.frm _ _ _ _ 0 rfl) ?_;intro B v F;exact⟨rfl,F.now.1⟩
 refine aI 16 false (e:=.cmp .lss (.x fun _=>a.who) (.l 0)) (decide_eq_false h3) ?_;refine ga env (Fo.frm _ _ _ _ 0 rfl) aA ?_;by_cases h4:a.who > 8
 ·refine aI 21 true (e:=.cmp .gtr (.x fun _=>a.who) (.l 8)) (decide_eq_true h4) ?_;rw[cC (decide_eq_false (fun h=>by omega))];refine ga env (Fo.frm _ _ _ _ 0 rfl) aA ?_;refine fa env (Fo.frm _ _ _ _ 0 rfl) ?_;intro B v F;exact⟨rfl,F.now.1⟩
 refine aI 21 false (e:=.cmp .gtr (.x fun _=>a.who) (.l 8)) (decide_eq_false h4) ?_;refine ga env (Fo.frm _ _ _ _ 0 rfl) aA ?_;by_cases h5:a.to<0
 ·refine aI 26 true (e:=.cmp .lss (.x fun _=>a.to) (.l 0)) (decide_eq_true h5) ?_;rw[cC (decide_eq_false (fun h=>by omega))];refine ga env (Fo.frm _ _ _ _ 0 rfl) aA ?_;refine fa env (Fo.frm _ _ _ _ 0 rfl) ?_;intro B v F;exact⟨rfl,F.now.1⟩
 refine aI 26 false (e:=.cmp .lss (.x fun _=>a.to) (.l 0)) (decide_eq_false h5) ?_;refine ga env (Fo.frm _ _ _ _ 0 rfl) aA ?_;by_cases h6:a.to > 7
 ·refine aI 31 true (e:=.cmp .gtr (.x fun _=>a.to) (.l 7)) (decide_eq_true h6) ?_;rw[cC (decide_eq_false (fun h=>by omega))];refine ga env (Fo.frm _ _ _ _ 0 rfl) aA ?_;refine fa env (Fo.frm _ _ _ _ 0 rfl) ?_;intro B v F;exact⟨rfl,F.now.1⟩
 refine aI 31 false (e:=.cmp .gtr (.x fun _=>a.to) (.l 7)) (decide_eq_false h6) ?_;refine ga env (Fo.frm _ _ _ _ 0 rfl) aA ?_;by_cases h7:a.n < -1125899906842624
 ·refine aI 36 true (e:=.cmp .lss (.x fun _=>a.n) (.l (-1125899906842624))) (decide_eq_true h7) ?_;rw[cC (decide_eq_false (fun h=>by omega))];refine ga env (Fo.frm _ _ _ _ 0 rfl) aA ?_;refine fa env (Fo.frm _ _ _ _ 0 rfl) ?_;intro B v F;exact⟨rfl,F.now.1⟩
 refine aI 36 false (e:=.cmp .lss (.x fun _=>a.n) (.l (-1125899906842624))) (decide_eq_false h7) ?_;refine ga env (Fo.frm _ _ _ _ 0 rfl) aA ?_;by_cases h8:a.n > 1125899906842624
 ·refine aI 41 true (e:=.cmp .gtr (.x fun _=>a.n) (.l 1125899906842624)) (decide_eq_true h8) ?_;rw[cC (decide_eq_false (fun h=>by omega))];refine ga env (Fo.frm _ _ _ _ 0 rfl) aA ?_;refine fa env (Fo.frm _ _ _ _ 0 rfl) ?_;intro B v F;exact⟨rfl,F.now.1⟩
 refine aI 41 false (e:=.cmp .gtr (.x fun _=>a.n) (.l 1125899906842624)) (decide_eq_false h8) ?_;refine ga env (Fo.frm _ _ _ _ 0 rfl) aA ?_;refine⟨fun q=>?_,fun q=>?_⟩
 ·have h9:(A.tn:Int) > 16:=by simpa [BE.den,cmpB,IE.den] using q
  rw[cC (decide_eq_false (fun h=>by omega))];refine ga env (Fo.frm _ _ _ _ 0 rfl) aA ?_;refine fa env (Fo.frm _ _ _ _ 0 rfl) ?_;intro B v F;exact⟨rfl,F.now.1⟩
 have h9:¬(A.tn:Int) > 16:=by simpa [BE.den,cmpB,IE.den] using q
 clear q;refine ga env (Fo.frm _ _ _ _ 0 rfl) aA ?_;rw[pF (decide_eq_true (by omega))];intro B v F;refine(xQ a.com A.com v F.now.2.com).mono ?_;rintro e w2 ⟨rfl,hb⟩;cases hz:decide (a.com=fR) with
 | true =>
  refine⟨.b (.l true),_,rfl,(Fo.frm _ _ _ _ _ rfl).b,F.on hb,?_⟩;clear F hb;refine ga env (Fo.frm _ _ _ _ 1 rfl) aA ?_;refine fa env (Fo.frm _ _ _ _ 1 rfl) ?_;intro B v F;exact⟨rfl,F.now.1⟩
 | false =>
 refine⟨.b (.l false),_,rfl,(Fo.frm _ _ _ _ _ rfl).b,F.on hb,?_⟩;clear F hb;refine ga env (Fo.frm _ _ _ _ 1 rfl) aA ?_;intro B v F;refine(dG a.com A.com v F.now.2.com).mono ?_;rintro e w2 ⟨rfl,hb⟩;refine⟨.b (.x fun _=>bQ a.com),_,rfl,(Fo.frm _ _ _ _ _ rfl).b,F.on hb,?_⟩;clear F hb;refine ga env (Fo.frm _ _ _ _ 1 rfl) aA ?_;refine fa env (Fo.frm _ _ _ _ 1 rfl) ?_;intro B v F;exact⟨rfl,F.now.1⟩

structure rK where
 s:Int
 m:Int
 el:Int
 bt:Int
 ev:Int
 rm:Int
deriving DecidableEq
def aJP (c:rK):List Value:=[.int .i64 c.s,.int .i64 c.m,.int .i64 c.el,.int .i64 c.bt,.int .i64 c.ev,.int .i64 c.rm]
def yS (c:rK):List AV:=[.i .i64 (.x fun _=>c.s),.i .i64 (.x fun _=>c.m),.i .i64 (.x fun _=>c.el),.i .i64 (.x fun _=>c.bt),.i .i64 (.x fun _=>c.ev),.i .i64 (.x fun _=>c.rm)]
def rfB (el bt:Int):Bool:=decide (2<=el/\el<=64/\1<=bt/\bt<el)
def svB (el bt ev:Int):Bool:=rfB el bt&&decide (1<=ev/\ev<=48)
def lY (c:rK):Bool:=decide (1<=c.s/\c.s<=7/\1<=c.m/\c.m<=c.s/\0<=c.rm/\c.rm<=1048576)&&svB c.el c.bt c.ev
theorem xC (sv:Value)(m:Nat)(el bt:Int)(w:World)(hr:Reads w .i64 sv (rng m))(h1:1<=m)(h7:m<=7):Calls Tryz.prog 134 #[.agg #[.int .i64 0,sv,.int .i64 el,.int .i64 bt]] w fun e w'=>e = .returned (.bool (rfB el bt))/\Below w.heap.size w w':=by
 obtain⟨a,c,rfl,hc⟩:=hr;have F0:Fo [] (fun _=>False) w (fun v=>Below w.heap.size w v/\Reads v .i64 (.slice a (rng m).length c) (rng m)) w []:=Fo.start nofun fun _ bv=>⟨bv,Reads.below (show Reads w .i64 (.slice a (rng m).length c) (rng m) from⟨a,c,rfl,hc⟩) bv⟩;clear hc;refine enter (fun _=>0) [.g [.i .i64 (.l 0),.sl (fun _=>a) (fun _=>(rng m).length) (fun _=>c),.i .i64 (.x fun _=>el),.i .i64 (.x fun _=>bt)]] [] Tryz.func134 rfl rfl F0 37 rfl ?_;refine ga env (Fo.frm _ _ _ _ 0 rfl) aA ?_;intro B v F;refine(aKQ _ m v F.now.2 h1 h7).mono ?_;rintro e w2 ⟨rfl,hb⟩;refine⟨.b (.l true),_,rfl,(Fo.frm _ _ _ _ _ rfl).b,F.on hb,?_⟩;clear F hb h1 h7;refine ga env (Fo.frm _ _ _ _ 1 rfl) aA ?_;by_cases h1:el ≥ 2
 case neg =>
  refine aI 21 false (e:=.cmp .geq (.x fun _=>el) (.l 2)) (decide_eq_false h1) ?_;rw[rfB,decide_eq_false (fun h=>by omega)];refine ga env (Fo.frm _ _ _ _ 1 rfl) aA ?_;refine fa env (Fo.frm _ _ _ _ 1 rfl) ?_;intro B v F;exact⟨rfl,F.now.1⟩
 refine aI 21 true (e:=.cmp .geq (.x fun _=>el) (.l 2)) (decide_eq_true h1) ?_;refine ga env (Fo.frm _ _ _ _ 1 rfl) aA ?_;by_cases h2:el<=64
 case neg =>
  refine aI 26 false (e:=.cmp .leq (.x fun _=>el) (.l 64)) (decide_eq_false h2) ?_;rw[rfB,decide_eq_false (fun h=>by omega)];refine ga env (Fo.frm _ _ _ _ 1 rfl) aA ?_;refine fa env (Fo.frm _ _ _ _ 1 rfl) ?_;intro B v F;exact⟨rfl,F.now.1⟩
 refine aI 26 true (e:=.cmp .leq (.x fun _=>el) (.l 64)) (decide_eq_true h2) ?_;refine ga env (Fo.frm _ _ _ _ 1 rfl) aA ?_;by_cases h3:bt ≥ 1
 case neg =>
  refine aI 31 false (e:=.cmp .geq (.x fun _=>bt) (.l 1)) (decide_eq_false h3) ?_;rw[rfB,decide_eq_false (fun h=>by omega)];refine ga env (Fo.frm _ _ _ _ 1 rfl) aA ?_;refine fa env (Fo.frm _ _ _ _ 1 rfl) ?_;intro B v F;exact⟨rfl,F.now.1⟩
 refine aI 31 true (e:=.cmp .geq (.x fun _=>bt) (.l 1)) (decide_eq_true h3) ?_;refine ga env (Fo.frm _ _ _ _ 1 rfl) aA ?_;refine fa env (Fo.frm _ _ _ _ 1 rfl) ?_;intro B v F;refine⟨?_,F.now.1⟩;rw[rfB,decide_eq_decide.2 (show (2<=el/\el<=64/\1<=bt/\bt<el) ↔ bt<el from⟨fun h=>h.2.2.2,fun h=>⟨h1,h2,h3,h⟩⟩)];rfl
theorem sZ (sv:Value)(m:Nat)(el bt ev:Int)(w:World)(hr:Reads w .i64 sv (rng m))(h1:1<=m)(h7:m<=7):Calls Tryz.prog 90 #[.agg #[.int .i64 0,sv,.int .i64 el,.int .i64 bt,.int .i64 ev]] w fun e w'=>e = .returned (.bool (svB el bt ev))/\Below w.heap.size w w':=by
 obtain⟨a,c,rfl,hc⟩:=hr;have F0:Fo [] (fun _=>False) w (fun v=>Below w.heap.size w v/\Reads v .i64 (.slice a (rng m).length c) (rng m)) w []:=Fo.start nofun fun _ bv=>⟨bv,Reads.below (show Reads w .i64 (.slice a (rng m).length c) (rng m) from⟨a,c,rfl,hc⟩) bv⟩;clear hc;refine enter (fun _=>0) [.g [.i .i64 (.l 0),.sl (fun _=>a) (fun _=>(rng m).length) (fun _=>c),.i .i64 (.x fun _=>el),.i .i64 (.x fun _=>bt),.i .i64 (.x fun _=>ev)]] [] Tryz.func90 rfl rfl F0 15 rfl ?_;refine ga env (Fo.frm _ _ _ _ 0 rfl) aA ?_;intro B v F;refine(xC _ m el bt v F.now.2 h1 h7).mono ?_;rintro e w2 ⟨rfl,hb⟩;unfold svB;cases rfB el bt with
 | false =>
  refine⟨.b (.l false),_,rfl,(Fo.frm _ _ _ _ _ rfl).b,F.on hb,?_⟩;clear F hb;refine ga env (Fo.frm _ _ _ _ 1 rfl) aA ?_;refine fa env (Fo.frm _ _ _ _ 1 rfl) ?_;intro B v F;exact⟨rfl,F.now.1⟩
 | true =>
 refine⟨.b (.l true),_,rfl,(Fo.frm _ _ _ _ _ rfl).b,F.on hb,?_⟩;clear F hb h1 h7;refine ga env (Fo.frm _ _ _ _ 1 rfl) aA ?_;by_cases h1:ev ≥ 1
 case neg =>
  refine aI 11 false (e:=.cmp .geq (.x fun _=>ev) (.l 1)) (decide_eq_false h1) ?_;rw[decide_eq_false (fun h=>by omega)];refine ga env (Fo.frm _ _ _ _ 1 rfl) aA ?_;refine fa env (Fo.frm _ _ _ _ 1 rfl) ?_;intro B v F;exact⟨rfl,F.now.1⟩
 refine aI 11 true (e:=.cmp .geq (.x fun _=>ev) (.l 1)) (decide_eq_true h1) ?_;refine ga env (Fo.frm _ _ _ _ 1 rfl) aA ?_;refine fa env (Fo.frm _ _ _ _ 1 rfl) ?_;intro B v F;refine⟨?_,F.now.1⟩;rw[decide_eq_decide.2 (show (1<=ev/\ev<=48) ↔ ev<=48 from⟨fun h=>h.2,fun h=>⟨h1,h⟩⟩)];rfl
theorem aHq (c:rK)(w:World):Calls Tryz.prog 42 #[.agg (aJP c).toArray] w fun e w'=>e = .returned (.bool (lY c))/\Below w.heap.size w w':=by
 have F0:Fo [] (fun _=>False) w (fun v=>Below w.heap.size w v) w []:=Fo.start nofun fun _ bv=>bv;obtain⟨s,m,el,bt,ev,rm⟩:=c;unfold lY;simp only;refine enter (fun _=>0) [.g (yS ⟨s,m,el,bt,ev,rm⟩)] [] Tryz.func42 rfl rfl F0 37 rfl ?_;refine ga env (Fo.frm _ _ _ _ 0 rfl) aA ?_;by_cases h1:s ≥ 1
 case neg =>
  refine aI 6 false (e:=.cmp .geq (.x fun _=>s) (.l 1)) (decide_eq_false h1) ?_;rw[decide_eq_false (fun h=>by omega)];refine ga env (Fo.frm _ _ _ _ 0 rfl) aA ?_;refine fa env (Fo.frm _ _ _ _ 0 rfl) ?_;intro B v F;exact⟨rfl,F.bel⟩
 refine aI 6 true (e:=.cmp .geq (.x fun _=>s) (.l 1)) (decide_eq_true h1) ?_;refine ga env (Fo.frm _ _ _ _ 0 rfl) aA ?_;by_cases h2:s<=7
 case neg =>
  refine aI 11 false (e:=.cmp .leq (.x fun _=>s) (.l 7)) (decide_eq_false h2) ?_;rw[decide_eq_false (fun h=>by omega)];refine ga env (Fo.frm _ _ _ _ 0 rfl) aA ?_;refine fa env (Fo.frm _ _ _ _ 0 rfl) ?_;intro B v F;exact⟨rfl,F.bel⟩
 refine aI 11 true (e:=.cmp .leq (.x fun _=>s) (.l 7)) (decide_eq_true h2) ?_;refine ga env (Fo.frm _ _ _ _ 0 rfl) aA ?_;by_cases h3:m ≥ 1
 case neg =>
  refine aI 16 false (e:=.cmp .geq (.x fun _=>m) (.l 1)) (decide_eq_false h3) ?_;rw[decide_eq_false (fun h=>by omega)];refine ga env (Fo.frm _ _ _ _ 0 rfl) aA ?_;refine fa env (Fo.frm _ _ _ _ 0 rfl) ?_;intro B v F;exact⟨rfl,F.bel⟩
 refine aI 16 true (e:=.cmp .geq (.x fun _=>m) (.l 1)) (decide_eq_true h3) ?_;refine ga env (Fo.frm _ _ _ _ 0 rfl) aA ?_;by_cases h4:m<=s
 case neg =>
  refine aI 23 false (e:=.cmp .leq (.x fun _=>m) (.x fun _=>s)) (decide_eq_false h4) ?_;rw[decide_eq_false (fun h=>by omega)];refine ga env (Fo.frm _ _ _ _ 0 rfl) aA ?_;refine fa env (Fo.frm _ _ _ _ 0 rfl) ?_;intro B v F;exact⟨rfl,F.bel⟩
 refine aI 23 true (e:=.cmp .leq (.x fun _=>m) (.x fun _=>s)) (decide_eq_true h4) ?_;refine ga env (Fo.frm _ _ _ _ 0 rfl) aA ?_;by_cases h5:rm ≥ 0
 case neg =>
  refine aI 28 false (e:=.cmp .geq (.x fun _=>rm) (.l 0)) (decide_eq_false h5) ?_;rw[decide_eq_false (fun h=>by omega)];refine ga env (Fo.frm _ _ _ _ 0 rfl) aA ?_;refine fa env (Fo.frm _ _ _ _ 0 rfl) ?_;intro B v F;exact⟨rfl,F.bel⟩
 refine aI 28 true (e:=.cmp .geq (.x fun _=>rm) (.l 0)) (decide_eq_true h5) ?_;refine ga env (Fo.frm _ _ _ _ 0 rfl) aA ?_;by_cases h6:rm<=1048576
 case neg =>
  refine aI 33 false (e:=.cmp .leq (.x fun _=>rm) (.l 1048576)) (decide_eq_false h6) ?_;rw[decide_eq_false (fun h=>by omega)];refine ga env (Fo.frm _ _ _ _ 0 rfl) aA ?_;refine fa env (Fo.frm _ _ _ _ 0 rfl) ?_;intro B v F;exact⟨rfl,F.bel⟩
 refine aI 33 true (e:=.cmp .leq (.x fun _=>rm) (.l 1048576)) (decide_eq_true h6) ?_;refine ga env (Fo.frm _ _ _ _ 0 rfl) aA ?_;rw[decide_eq_true (⟨h1,h2,h3,h4,h5,h6⟩:1<=s/\s<=7/\1<=m/\m<=s/\0<=rm/\rm<=1048576),Bool.true_and];obtain⟨k,rfl⟩:=Int.eq_ofNat_of_zero_le (show 0<=m by omega);intro B v F;refine(aIm s el bt ev rm k v (by omega) (by omega)).mono ?_;rintro e w2 ⟨sv,rfl,hs,hb⟩;obtain⟨a,cc,rfl,hc⟩:=hs;refine⟨.g [.i .i64 (.l 0),.sl (fun _=>a) (fun _=>(rng k).length) (fun _=>cc),.i .i64 (.x fun _=>el),.i .i64 (.x fun _=>bt),.i .i64 (.x fun _=>ev)],_,rfl,(Fo.frm _ _ _ _ _ rfl).b,F.step hb (Z:=fun v=>Reads v .i64 (.slice a (rng k).length cc) (rng k)) (fun u bu=>Reads.below ⟨a,cc,rfl,hc⟩ bu),?_⟩;clear F hb hc;refine ga env (Fo.frm _ _ _ _ 1 rfl) aA ?_;intro B v F;refine(sZ _ k el bt ev v F.now.1 (by omega) (by omega)).mono ?_;rintro e w2 ⟨rfl,hb⟩;refine⟨.b (.x fun _=>svB el bt ev),_,rfl,(Fo.frm _ _ _ _ _ rfl).b,F.on hb,?_⟩;clear F hb;refine ga env (Fo.frm _ _ _ _ 1 rfl) aA ?_;refine fa env (Fo.frm _ _ _ _ 1 rfl) ?_;intro B v F;exact⟨rfl,F.now.2⟩
theorem xK (sv:Value)(m:Nat)(el bt:Int)(w:World)(hr:Reads w .i64 sv (rng m))(h1:1<=m)(h7:m<=7):Calls Tryz.prog 138 #[.agg #[.int .i64 0,sv,.int .i64 el,.int .i64 bt]] w fun e w'=>e = .returned (.bool (rfB el bt))/\Below w.heap.size w w':=by
 obtain⟨a,c,rfl,hc⟩:=hr;have F0:Fo [] (fun _=>False) w (fun v=>Below w.heap.size w v/\Reads v .i64 (.slice a (rng m).length c) (rng m)) w []:=Fo.start nofun fun _ bv=>⟨bv,Reads.below (show Reads w .i64 (.slice a (rng m).length c) (rng m) from⟨a,c,rfl,hc⟩) bv⟩;clear hc;refine enter (fun _=>0) [.g [.i .i64 (.l 0),.sl (fun _=>a) (fun _=>(rng m).length) (fun _=>c),.i .i64 (.x fun _=>el),.i .i64 (.x fun _=>bt)]] [] Tryz.func138 rfl rfl F0 37 rfl ?_;refine ga env (Fo.frm _ _ _ _ 0 rfl) aA ?_;intro B v F;refine(aHU _ m v F.now.2 h1 h7).mono ?_;rintro e w2 ⟨rfl,hb⟩;refine⟨.b (.l true),_,rfl,(Fo.frm _ _ _ _ _ rfl).b,F.on hb,?_⟩;clear F hb h1 h7;refine ga env (Fo.frm _ _ _ _ 1 rfl) aA ?_;by_cases h1:el ≥ 2
 case neg =>
  refine aI 21 false (e:=.cmp .geq (.x fun _=>el) (.l 2)) (decide_eq_false h1) ?_;rw[rfB,decide_eq_false (fun h=>by omega)];refine ga env (Fo.frm _ _ _ _ 1 rfl) aA ?_;refine fa env (Fo.frm _ _ _ _ 1 rfl) ?_;intro B v F;exact⟨rfl,F.now.1⟩
 refine aI 21 true (e:=.cmp .geq (.x fun _=>el) (.l 2)) (decide_eq_true h1) ?_;refine ga env (Fo.frm _ _ _ _ 1 rfl) aA ?_;by_cases h2:el<=64
 case neg =>
  refine aI 26 false (e:=.cmp .leq (.x fun _=>el) (.l 64)) (decide_eq_false h2) ?_;rw[rfB,decide_eq_false (fun h=>by omega)];refine ga env (Fo.frm _ _ _ _ 1 rfl) aA ?_;refine fa env (Fo.frm _ _ _ _ 1 rfl) ?_;intro B v F;exact⟨rfl,F.now.1⟩
 refine aI 26 true (e:=.cmp .leq (.x fun _=>el) (.l 64)) (decide_eq_true h2) ?_;refine ga env (Fo.frm _ _ _ _ 1 rfl) aA ?_;by_cases h3:bt ≥ 1
 case neg =>
  refine aI 31 false (e:=.cmp .geq (.x fun _=>bt) (.l 1)) (decide_eq_false h3) ?_;rw[rfB,decide_eq_false (fun h=>by omega)];refine ga env (Fo.frm _ _ _ _ 1 rfl) aA ?_;refine fa env (Fo.frm _ _ _ _ 1 rfl) ?_;intro B v F;exact⟨rfl,F.now.1⟩
 refine aI 31 true (e:=.cmp .geq (.x fun _=>bt) (.l 1)) (decide_eq_true h3) ?_;refine ga env (Fo.frm _ _ _ _ 1 rfl) aA ?_;refine fa env (Fo.frm _ _ _ _ 1 rfl) ?_;intro B v F;refine⟨?_,F.now.1⟩;rw[rfB,decide_eq_decide.2 (show (2<=el/\el<=64/\1<=bt/\bt<el) ↔ bt<el from⟨fun h=>h.2.2.2,fun h=>⟨h1,h2,h3,h⟩⟩)];rfl
theorem tK (sv:Value)(m:Nat)(el bt ev:Int)(w:World)(hr:Reads w .i64 sv (rng m))(h1:1<=m)(h7:m<=7):Calls Tryz.prog 94 #[.agg #[.int .i64 0,sv,.int .i64 el,.int .i64 bt,.int .i64 ev]] w fun e w'=>e = .returned (.bool (svB el bt ev))/\Below w.heap.size w w':=by
 obtain⟨a,c,rfl,hc⟩:=hr;have F0:Fo [] (fun _=>False) w (fun v=>Below w.heap.size w v/\Reads v .i64 (.slice a (rng m).length c) (rng m)) w []:=Fo.start nofun fun _ bv=>⟨bv,Reads.below (show Reads w .i64 (.slice a (rng m).length c) (rng m) from⟨a,c,rfl,hc⟩) bv⟩;clear hc;refine enter (fun _=>0) [.g [.i .i64 (.l 0),.sl (fun _=>a) (fun _=>(rng m).length) (fun _=>c),.i .i64 (.x fun _=>el),.i .i64 (.x fun _=>bt),.i .i64 (.x fun _=>ev)]] [] Tryz.func94 rfl rfl F0 15 rfl ?_;refine ga env (Fo.frm _ _ _ _ 0 rfl) aA ?_;intro B v F;refine(xK _ m el bt v F.now.2 h1 h7).mono ?_;rintro e w2 ⟨rfl,hb⟩;unfold svB;cases rfB el bt with
 | false =>
  refine⟨.b (.l false),_,rfl,(Fo.frm _ _ _ _ _ rfl).b,F.on hb,?_⟩;clear F hb;refine ga env (Fo.frm _ _ _ _ 1 rfl) aA ?_;refine fa env (Fo.frm _ _ _ _ 1 rfl) ?_;intro B v F;exact⟨rfl,F.now.1⟩
 | true =>
 refine⟨.b (.l true),_,rfl,(Fo.frm _ _ _ _ _ rfl).b,F.on hb,?_⟩;clear F hb h1 h7;refine ga env (Fo.frm _ _ _ _ 1 rfl) aA ?_;by_cases h1:ev ≥ 1
 case neg =>
  refine aI 11 false (e:=.cmp .geq (.x fun _=>ev) (.l 1)) (decide_eq_false h1) ?_;rw[decide_eq_false (fun h=>by omega)];refine ga env (Fo.frm _ _ _ _ 1 rfl) aA ?_;refine fa env (Fo.frm _ _ _ _ 1 rfl) ?_;intro B v F;exact⟨rfl,F.now.1⟩
 refine aI 11 true (e:=.cmp .geq (.x fun _=>ev) (.l 1)) (decide_eq_true h1) ?_;refine ga env (Fo.frm _ _ _ _ 1 rfl) aA ?_;refine fa env (Fo.frm _ _ _ _ 1 rfl) ?_;intro B v F;refine⟨?_,F.now.1⟩;rw[decide_eq_decide.2 (show (1<=ev/\ev<=48) ↔ ev<=48 from⟨fun h=>h.2,fun h=>⟨h1,h⟩⟩)];rfl
theorem aHK (c:rK)(w:World):Calls Tryz.prog 46 #[.agg (aJP c).toArray] w fun e w'=>e = .returned (.bool (lY c))/\Below w.heap.size w w':=by
 have F0:Fo [] (fun _=>False) w (fun v=>Below w.heap.size w v) w []:=Fo.start nofun fun _ bv=>bv;obtain⟨s,m,el,bt,ev,rm⟩:=c;unfold lY;simp only;refine enter (fun _=>0) [.g (yS ⟨s,m,el,bt,ev,rm⟩)] [] Tryz.func46 rfl rfl F0 37 rfl ?_;refine ga env (Fo.frm _ _ _ _ 0 rfl) aA ?_;by_cases h1:s ≥ 1
 case neg =>
  refine aI 6 false (e:=.cmp .geq (.x fun _=>s) (.l 1)) (decide_eq_false h1) ?_;rw[decide_eq_false (fun h=>by omega)];refine ga env (Fo.frm _ _ _ _ 0 rfl) aA ?_;refine fa env (Fo.frm _ _ _ _ 0 rfl) ?_;intro B v F;exact⟨rfl,F.bel⟩
 refine aI 6 true (e:=.cmp .geq (.x fun _=>s) (.l 1)) (decide_eq_true h1) ?_;refine ga env (Fo.frm _ _ _ _ 0 rfl) aA ?_;by_cases h2:s<=7
 case neg =>
  refine aI 11 false (e:=.cmp .leq (.x fun _=>s) (.l 7)) (decide_eq_false h2) ?_;rw[decide_eq_false (fun h=>by omega)];refine ga env (Fo.frm _ _ _ _ 0 rfl) aA ?_;refine fa env (Fo.frm _ _ _ _ 0 rfl) ?_;intro B v F;exact⟨rfl,F.bel⟩
 refine aI 11 true (e:=.cmp .leq (.x fun _=>s) (.l 7)) (decide_eq_true h2) ?_;refine ga env (Fo.frm _ _ _ _ 0 rfl) aA ?_;by_cases h3:m ≥ 1
 case neg =>
  refine aI 16 false (e:=.cmp .geq (.x fun _=>m) (.l 1)) (decide_eq_false h3) ?_;rw[decide_eq_false (fun h=>by omega)];refine ga env (Fo.frm _ _ _ _ 0 rfl) aA ?_;refine fa env (Fo.frm _ _ _ _ 0 rfl) ?_;intro B v F;exact⟨rfl,F.bel⟩
 refine aI 16 true (e:=.cmp .geq (.x fun _=>m) (.l 1)) (decide_eq_true h3) ?_;refine ga env (Fo.frm _ _ _ _ 0 rfl) aA ?_;by_cases h4:m<=s
 case neg =>
  refine aI 23 false (e:=.cmp .leq (.x fun _=>m) (.x fun _=>s)) (decide_eq_false h4) ?_;rw[decide_eq_false (fun h=>by omega)];refine ga env (Fo.frm _ _ _ _ 0 rfl) aA ?_;refine fa env (Fo.frm _ _ _ _ 0 rfl) ?_;intro B v F;exact⟨rfl,F.bel⟩
 refine aI 23 true (e:=.cmp .leq (.x fun _=>m) (.x fun _=>s)) (decide_eq_true h4) ?_;refine ga env (Fo.frm _ _ _ _ 0 rfl) aA ?_;by_cases h5:rm ≥ 0
 case neg =>
  refine aI 28 false (e:=.cmp .geq (.x fun _=>rm) (.l 0)) (decide_eq_false h5) ?_;rw[decide_eq_false (fun h=>by omega)];refine ga env (Fo.frm _ _ _ _ 0 rfl) aA ?_;refine fa env (Fo.frm _ _ _ _ 0 rfl) ?_;intro B v F;exact⟨rfl,F.bel⟩
 refine aI 28 true (e:=.cmp .geq (.x fun _=>rm) (.l 0)) (decide_eq_true h5) ?_;refine ga env (Fo.frm _ _ _ _ 0 rfl) aA ?_;by_cases h6:rm<=1048576
 case neg =>
  refine aI 33 false (e:=.cmp .leq (.x fun _=>rm) (.l 1048576)) (decide_eq_false h6) ?_;rw[decide_eq_false (fun h=>by omega)];refine ga env (Fo.frm _ _ _ _ 0 rfl) aA ?_;refine fa env (Fo.frm _ _ _ _ 0 rfl) ?_;intro B v F;exact⟨rfl,F.bel⟩
 refine aI 33 true (e:=.cmp .leq (.x fun _=>rm) (.l 1048576)) (decide_eq_true h6) ?_;refine ga env (Fo.frm _ _ _ _ 0 rfl) aA ?_;rw[decide_eq_true (⟨h1,h2,h3,h4,h5,h6⟩:1<=s/\s<=7/\1<=m/\m<=s/\0<=rm/\rm<=1048576),Bool.true_and];obtain⟨k,rfl⟩:=Int.eq_ofNat_of_zero_le (show 0<=m by omega);intro B v F;refine(aJm s el bt ev rm k v (by omega) (by omega)).mono ?_;rintro e w2 ⟨sv,rfl,hs,hb⟩;obtain⟨a,cc,rfl,hc⟩:=hs;refine⟨.g [.i .i64 (.l 0),.sl (fun _=>a) (fun _=>(rng k).length) (fun _=>cc),.i .i64 (.x fun _=>el),.i .i64 (.x fun _=>bt),.i .i64 (.x fun _=>ev)],_,rfl,(Fo.frm _ _ _ _ _ rfl).b,F.step hb (Z:=fun v=>Reads v .i64 (.slice a (rng k).length cc) (rng k)) (fun u bu=>Reads.below ⟨a,cc,rfl,hc⟩ bu),?_⟩;clear F hb hc;refine ga env (Fo.frm _ _ _ _ 1 rfl) aA ?_;intro B v F;refine(tK _ k el bt ev v F.now.1 (by omega) (by omega)).mono ?_;rintro e w2 ⟨rfl,hb⟩;refine⟨.b (.x fun _=>svB el bt ev),_,rfl,(Fo.frm _ _ _ _ _ rfl).b,F.on hb,?_⟩;clear F hb;refine ga env (Fo.frm _ _ _ _ 1 rfl) aA ?_;refine fa env (Fo.frm _ _ _ _ 1 rfl) ?_;intro B v F;exact⟨rfl,F.now.2⟩

structure bI (w:World)(L:List (cD × dN))(a:Option Addr)(n c:Nat):Prop where
 row:aV w 19 (.slice a n c) (L.map fun p=>eQ p.1 p.2)
 ln:L.length=n
 sm:n<=2147483648
 each:∀p ∈ L,bW w p.1 p.2
theorem bI.below {w w':World}{L:List (cD × dN)}{a:Option Addr}{n c:Nat}(h:bI w L a n c)(hb:Below w.heap.size w w'):bI w' L a n c:=⟨h.row.below hb,h.ln,h.sm,fun p hp=>(h.each p hp).below hb⟩
theorem bI.nil (w:World):bI w [] none 0 0 where
 row:=by
  show aV w 19 (.slice none 0 0) [];exact aV.nil w 19
 ln:=rfl
 sm:=by omega
 each:=fun p hp=>by cases hp
theorem bI.base {w:World}{L:List (cD × dN)}{a:Option Addr}{n c j:Nat}(h:bI w L a n c)(hj:j<n):∃b o,a=some ⟨b,o,none⟩:=by
 obtain⟨b,o,e,_⟩:=h.row.at (j:=j) (by rw[List.length_map,h.ln];exact hj);exact⟨b,o,e⟩
theorem bI.range {w:World}{L:List (cD × dN)}{b o n c j:Nat}(h:bI w L (some ⟨b,o,none⟩) n c)(hj:j<L.length):w.rangeAt b (o+j*19) (eQ L[j].1 L[j].2):=by
 have:=h.row.range (j:=j) (by rw[List.length_map];exact hj)
 rwa [List.getElem_map]at this
structure gP where
 cfg:rK
 acts:List cD
 rounds:Int
 by':Int
deriving DecidableEq
def pA (s:gP)(a:Option Addr)(n c:Nat):List Value:=aJP s.cfg ++ [.slice a n c,.int .i64 s.rounds,.int .i64 s.by']
def jN (s:gP)(a:Option Addr)(n c:Nat):List AV:=yS s.cfg ++ [.sl (fun _=>a) (fun _=>n) (fun _=>c),.i .i64 (.x fun _=>s.rounds),.i .i64 (.x fun _=>s.by')]
structure cF (w:World)(s:gP)(L:List (cD × dN))(a:Option Addr)(n c:Nat):Prop where
 acts:bI w L a n c
 eq:s.acts=L.map (·.1)
theorem cF.below {w w':World}{s:gP}{L:List (cD × dN)}{a:Option Addr}{n c:Nat}(h:cF w s L a n c)(hb:Below w.heap.size w w'):cF w' s L a n c:=⟨h.acts.below hb,h.eq⟩
def fW (s:gP):Bool:=lY s.cfg&&(decide (0<=s.rounds/\s.rounds<=200/\0<=s.by'/\s.by'<=1125899906842624/\s.acts.length<=4096)&&s.acts.all dO)
theorem rO {α:Type}{l:List α}{p:α->Bool}{j:Nat}(hj:j<l.length)(h:(l.take j).all p=true)(k:p l[j]=true):(l.take (j+1)).all p=true:=by
 rw[List.take_succ_eq_append_getElem hj,List.all_append,h];simp[k]
theorem yR {α:Type}{l:List α}{p:α->Bool}{j:Nat}(hj:j<l.length)(k:p l[j]=false):l.all p=false:=by
 rw[Bool.eq_false_iff];intro h;rw[List.all_eq_true]at h;rw[h _ (List.getElem_mem hj)]at k;cases k
theorem xD (a:cD)(A:dN)(w:World)(h:bW w a A):Calls Tryz.prog 44 #[.agg (eQ a A).toArray] w fun e w'=>e = .returned (.bool (!dO a))/\Below w.heap.size w w':=by
 have F0:Fe 0 (fun v=>Below w.heap.size w v/\bW v a A) w []:=Fe.start fun _ bv=>⟨bv,h.below bv⟩;clear h;refine enter (fun _=>0) [.g (eS a A)] [] Tryz.func44 rfl rfl F0 5 rfl ?_;refine ga env (Fe.frm 0 _) aA ?_;intro B v F;refine(aHo a A v F.now.2).mono ?_;rintro e w2 ⟨rfl,hb⟩;refine⟨.b (.x fun _=>dO a),_,rfl,(Fe.frm 1 _).b,F.on hb,?_⟩;clear F hb;refine ga env (Fe.frm 1 _) aA ?_;refine fa env (Fe.frm 1 _) ?_;intro B v F;exact⟨rfl,F.now.1⟩
def sxL (j:Nat):List (Nat × AV):=[(1,.p 0 0),(3,.i .i64 (.x fun _=>(j:Int)))]
def ixL (a:Option Addr)(n c j:Nat):List (Nat × AV):=[(0,.sl (fun _=>a) (fun _=>n) (fun _=>c)),(1,.f (.func 44) [] []),(7,.i .i64 (.x fun _=>(n:Int))),(8,.i .i64 (.x fun _=>(j:Int)))]
theorem aHt (L:List (cD × dN))(a:Option Addr)(n c:Nat)(w:World)(h:bI w L a n c):Calls Tryz.prog 92 #[.slice a n c,.func (.func 44) #[] #[]] w fun e w'=>∃r:Int,e = .returned (.int .i64 r)/\decide (r ≥ 0) = !(L.all fun p=>dO p.1)/\Below w.heap.size w w':=by
 have F0:Fe 0 (fun v=>Below w.heap.size w v/\bI v L a n c) w []:=Fe.start fun _ bv=>⟨bv,h.below bv⟩;refine enter (fun _=>0) [.sl (fun _=>a) (fun _=>n) (fun _=>c),.f (.func 44) [] []] [] Tryz.func92 rfl rfl F0 17 rfl ?_;refine ga env (Fe.frm 0 _) aA ?_;have hn:=h.ln;have hsm:=h.sm;refine mR (Fe 0 (fun v=>Below w.heap.size w v/\bI v L a n c)) (ixL a n c) 19 n (fun j=>(L.take j).all (fun p=>dO p.1)=true) rfl (fun B=>⟨rfl,rfl,rfl,rfl,trivial⟩) (fun _ _ h=>h) ?_;intro i J hJ;refine ga env (Fe.frm 0 _) aA ?_;refine⟨fun q=>?_,fun q=>?_⟩
 ·have hlt:i.j<n:=by simpa [BE.den,cmpB,IE.den] using q
  clear q;have hlL:i.j<L.length:=hn ▸ hlt;obtain⟨b,o,rfl⟩:=h.base hlt;have hrg:=fun v (hv:bI v L (some ⟨b,o,none⟩) n c)=>hv.range hlL;have hpm:=List.getElem_mem hlL;generalize hpe:L[i.j]=p at hrg hpm ⊢;refine ga env (Fe.frm 0 _) aA ?_;refine aK (.pa fun _=>⟨b,o+i.j*19,none⟩) (fun B v F=>bX (e:=76) (n:=19) rfl Tryz.underlying26 (by kernel_rfl) (by rw[St.aC];rfl) (by rw[St.aC];rfl) hlt) ?_;refine ga env (Fe.frm 0 _) aA ?_;refine aK (.g (eS p.1 p.2)) (fun B v F=>dD (cs:=eQ p.1 p.2) (b:=b) (off:=o+i.j*19) rfl (by rw[St.aC];rfl) (hrg _ F.now.2) Tryz.underlying76 rfl (by kernel_rfl)) ?_;refine ga env (Fe.frm 0 _) aA ?_;intro B v F;refine(xD p.1 p.2 v (F.now.2.each _ hpm)).mono ?_;rintro e w2 ⟨rfl,hb⟩;cases hok:dO p.1 with
  | false =>
   refine⟨.b (.l true),_,rfl,(Fe.frm 0 _).b,F.on hb,?_⟩;clear F hb;refine ga env (Fe.frm 0 _) aA ?_;refine fa env (Fe.frm 0 _) ?_;intro B v F;refine⟨i.j,rfl,?_,F.now.1⟩;rw[yR (p:=fun p:cD × dN=>dO p.1) hlL (hpe ▸ hok)];exact decide_eq_true (Int.natCast_nonneg _)
  | true =>
   refine⟨.b (.l false),_,rfl,(Fe.frm 0 _).b,F.on hb,?_⟩;clear F hb;refine ga env (Fe.frm 0 _) aA ?_;refine qR hJ hlt (rO hlL i.hp (hpe ▸ hok)) (fun B=>⟨rfl,rfl,rfl,?_,trivial⟩) (fun _ _ h=>h);simp only[AV.den,IE.den,getT];rw[wrI hlt (by omega)]
 ·have hje:i.j=n:=by
   have:¬i.j<n:=by simpa [BE.den,cmpB,IE.den] using q
   have:=i.hj;omega
  have hall:=i.hp;rw[hje,<- hn,List.take_length]at hall;clear q;refine ga env (Fe.frm 0 _) aA ?_;refine fa env (Fe.frm 0 _) ?_;intro B v F;exact⟨-1,rfl,by rw[hall];rfl,F.now.1⟩
theorem oY (L:List (cD × dN))(a:Option Addr)(n c:Nat)(w:World)(h:bI w L a n c):Calls Tryz.prog 43 #[.slice a n c,.func (.func 44) #[] #[]] w fun e w'=>e = .returned (.bool (!(L.all fun p=>dO p.1)))/\Below w.heap.size w w':=by
 have F0:Fe 0 (fun v=>Below w.heap.size w v/\bI v L a n c) w []:=Fe.start fun _ bv=>⟨bv,h.below bv⟩;clear h;refine enter (fun _=>0) [.sl (fun _=>a) (fun _=>n) (fun _=>c),.f (.func 44) [] []] [] Tryz.func43 rfl rfl F0 7 rfl ?_;refine ga env (Fe.frm 0 _) aA ?_;intro B v F;refine(aHt L a n c v F.now.2).mono ?_;rintro e w2 ⟨r,rfl,hr,hb⟩;refine⟨.i .i64 (.x fun _=>r),_,rfl,(Fe.frm 0 _).b,F.on hb,?_⟩;clear F hb;refine ga env (Fe.frm 0 _) aA ?_;refine fa env (Fe.frm 0 _) ?_;intro B v F;rw[<- hr];exact⟨rfl,F.now.1⟩
theorem nT (s:gP)(L:List (cD × dN))(a:Option Addr)(n c:Nat)(w:World)(h:cF w s L a n c):Calls Tryz.prog 14 #[.agg (pA s a n c).toArray] w fun e w'=>e = .returned (.bool (fW s))/\Below w.heap.size w w':=by
 have F0:Fe 0 (fun v=>Below w.heap.size w v/\bI v L a n c) w []:=Fe.start fun _ bv=>⟨bv,h.acts.below bv⟩;have hn:=h.acts.ln;have hsm:=h.acts.sm;have he:=h.eq;obtain⟨cfg,acts,rounds,by1⟩:=s;simp only at he;subst he;clear h;refine enter (fun _=>0) [.g (jN ⟨cfg,L.map (·.1),rounds,by1⟩ a n c)] [] Tryz.func14 rfl rfl F0 36 rfl ?_
 refine ga env (Fe.frm 0 _) aA ?_;intro B v F;refine(aHq cfg v).mono ?_;rintro e w2 ⟨rfl,hb⟩;unfold fW;simp only;cases lY cfg with
 | false =>
  refine⟨.b (.l false),_,rfl,(Fe.frm 1 _).b,F.on hb,?_⟩;clear F hb;refine ga env (Fe.frm 1 _) aA ?_;refine fa env (Fe.frm 1 _) ?_;intro B v F;exact⟨rfl,F.now.1⟩
 | true =>
 refine⟨.b (.l true),_,rfl,(Fe.frm 1 _).b,F.on hb,?_⟩;clear F hb;have hl:(L.map (·.1)).length=n:=by rw[List.length_map];exact hn
 refine ga env (Fe.frm 1 _) aA ?_;by_cases h1:rounds<0
 ·rw[decide_eq_false (fun h=>by omega)];refine aI 12 true (e:=.cmp .lss (.x fun _=>rounds) (.l 0)) (decide_eq_true h1) ?_;refine ga env (Fe.frm 1 _) aA ?_;refine fa env (Fe.frm 1 _) ?_;intro B v F;exact⟨rfl,F.now.1⟩
 refine aI 12 false (e:=.cmp .lss (.x fun _=>rounds) (.l 0)) (decide_eq_false h1) ?_;refine ga env (Fe.frm 1 _) aA ?_;by_cases h2:rounds > 200
 ·rw[decide_eq_false (fun h=>by omega)];refine aI 17 true (e:=.cmp .gtr (.x fun _=>rounds) (.l 200)) (decide_eq_true h2) ?_;refine ga env (Fe.frm 1 _) aA ?_;refine fa env (Fe.frm 1 _) ?_;intro B v F;exact⟨rfl,F.now.1⟩
 refine aI 17 false (e:=.cmp .gtr (.x fun _=>rounds) (.l 200)) (decide_eq_false h2) ?_;refine ga env (Fe.frm 1 _) aA ?_;by_cases h3:by1<0
 ·rw[decide_eq_false (fun h=>by omega)];refine aI 22 true (e:=.cmp .lss (.x fun _=>by1) (.l 0)) (decide_eq_true h3) ?_;refine ga env (Fe.frm 1 _) aA ?_;refine fa env (Fe.frm 1 _) ?_;intro B v F;exact⟨rfl,F.now.1⟩
 refine aI 22 false (e:=.cmp .lss (.x fun _=>by1) (.l 0)) (decide_eq_false h3) ?_;refine ga env (Fe.frm 1 _) aA ?_;by_cases h4:by1 > 1125899906842624
 ·rw[decide_eq_false (fun h=>by omega)];refine aI 27 true (e:=.cmp .gtr (.x fun _=>by1) (.l 1125899906842624)) (decide_eq_true h4) ?_;refine ga env (Fe.frm 1 _) aA ?_;refine fa env (Fe.frm 1 _) ?_;intro B v F;exact⟨rfl,F.now.1⟩
 refine aI 27 false (e:=.cmp .gtr (.x fun _=>by1) (.l 1125899906842624)) (decide_eq_false h4) ?_;refine ga env (Fe.frm 1 _) aA ?_;refine⟨fun q=>?_,fun q=>?_⟩
 ·have h5:(n:Int) > 4096:=by simpa [BE.den,cmpB,IE.den] using q
  rw[decide_eq_false (fun h=>by omega)];refine ga env (Fe.frm 1 _) aA ?_;refine fa env (Fe.frm 1 _) ?_;intro B v F;exact⟨rfl,F.now.1⟩
 have h5:¬((n:Int) > 4096):=by simpa [BE.den,cmpB,IE.den] using q
 clear q;refine ga env (Fe.frm 1 _) aA ?_;rw[decide_eq_true (by omega),Bool.true_and,Bool.true_and,List.all_map];intro B v F;refine(oY L a n c v F.now.2).mono ?_;rintro e w2 ⟨rfl,hb⟩;refine⟨.b (.x fun _=>!(L.all fun p=>dO p.1)),_,rfl,(Fe.frm 1 _).b,F.on hb,?_⟩;clear F hb;refine ga env (Fe.frm 1 _) aA ?_;refine fa env (Fe.frm 1 _) ?_;intro B v F;refine⟨?_,F.now.1⟩;show Ending.returned (.bool !(!(L.all fun p=>dO p.1)))=_;rw[Bool.not_not];rfl
theorem tI (s:gP)(L:List (cD × dN))(a:Option Addr)(n c:Nat)(w:World)(h:cF w s L a n c):Calls Tryz.prog 15 #[.agg (pA s a n c).toArray] w fun e w'=>e = .returned (.bool (fW s))/\Below w.heap.size w w':=by
 have F0:Fe 0 (fun v=>Below w.heap.size w v/\bI v L a n c) w []:=Fe.start fun _ bv=>⟨bv,h.acts.below bv⟩;have hn:=h.acts.ln;have hsm:=h.acts.sm;have he:=h.eq;have h0:=h.acts;obtain⟨cfg,acts,rounds,by1⟩:=s;simp only at he;subst he;clear h;refine enter (fun _=>0) [.g (jN ⟨cfg,L.map (·.1),rounds,by1⟩ a n c)] [] Tryz.func15 rfl rfl F0 47 rfl ?_
 refine ga env (Fe.frm 0 _) aA ?_;intro B v F;refine(aHK cfg v).mono ?_;rintro e w2 ⟨rfl,hb⟩;unfold fW;simp only;cases lY cfg with
 | false =>
  refine⟨.b (.l false),_,rfl,(Fe.frm 1 _).b,F.on hb,?_⟩;clear F hb;refine ga env (Fe.frm 1 _) aA ?_;refine fa env (Fe.frm 1 _) ?_;intro B v F;exact⟨rfl,F.now.1⟩
 | true =>
 refine⟨.b (.l true),_,rfl,(Fe.frm 1 _).b,F.on hb,?_⟩;clear F hb;have hl:(L.map (·.1)).length=n:=by rw[List.length_map];exact hn
 refine ga env (Fe.frm 1 _) aA ?_;by_cases h1:rounds<0
 ·rw[decide_eq_false (fun h=>by omega)];refine aI 13 true (e:=.cmp .lss (.x fun _=>rounds) (.l 0)) (decide_eq_true h1) ?_;refine ga env (Fe.frm 1 _) aA ?_;refine fa env (Fe.frm 1 _) ?_;intro B v F;exact⟨rfl,F.now.1⟩
 refine aI 13 false (e:=.cmp .lss (.x fun _=>rounds) (.l 0)) (decide_eq_false h1) ?_;refine ga env (Fe.frm 1 _) aA ?_;by_cases h2:rounds > 200
 ·rw[decide_eq_false (fun h=>by omega)];refine aI 18 true (e:=.cmp .gtr (.x fun _=>rounds) (.l 200)) (decide_eq_true h2) ?_;refine ga env (Fe.frm 1 _) aA ?_;refine fa env (Fe.frm 1 _) ?_;intro B v F;exact⟨rfl,F.now.1⟩
 refine aI 18 false (e:=.cmp .gtr (.x fun _=>rounds) (.l 200)) (decide_eq_false h2) ?_;refine ga env (Fe.frm 1 _) aA ?_;by_cases h3:by1<0
 ·rw[decide_eq_false (fun h=>by omega)];refine aI 23 true (e:=.cmp .lss (.x fun _=>by1) (.l 0)) (decide_eq_true h3) ?_;refine ga env (Fe.frm 1 _) aA ?_;refine fa env (Fe.frm 1 _) ?_;intro B v F;exact⟨rfl,F.now.1⟩
 refine aI 23 false (e:=.cmp .lss (.x fun _=>by1) (.l 0)) (decide_eq_false h3) ?_;refine ga env (Fe.frm 1 _) aA ?_;by_cases h4:by1 > 1125899906842624
 ·rw[decide_eq_false (fun h=>by omega)];refine aI 28 true (e:=.cmp .gtr (.x fun _=>by1) (.l 1125899906842624)) (decide_eq_true h4) ?_;refine ga env (Fe.frm 1 _) aA ?_;refine fa env (Fe.frm 1 _) ?_;intro B v F;exact⟨rfl,F.now.1⟩
 refine aI 28 false (e:=.cmp .gtr (.x fun _=>by1) (.l 1125899906842624)) (decide_eq_false h4) ?_;refine ga env (Fe.frm 1 _) aA ?_;refine⟨fun q=>?_,fun q=>?_⟩
 ·have h5:(n:Int) > 4096:=by simpa [BE.den,cmpB,IE.den] using q
  rw[decide_eq_false (fun h=>by omega)];refine ga env (Fe.frm 1 _) aA ?_;refine fa env (Fe.frm 1 _) ?_;intro B v F;exact⟨rfl,F.now.1⟩
 have h5:¬((n:Int) > 4096):=by simpa [BE.den,cmpB,IE.den] using q
 clear q;refine ga env (Fe.frm 1 _) aA ?_;rw[decide_eq_true (by omega),Bool.true_and,Bool.true_and,List.all_map];refine mR (Fe 1 (fun v=>Below w.heap.size w v/\bI v L a n c)) sxL 48 n (fun j=>(L.take j).all (fun p=>dO p.1)=true) rfl (fun B=>⟨rfl,rfl,trivial⟩) (fun _ _ h=>h) ?_;intro i J hJ;refine ga env (Fe.frm 1 _) aA ?_;refine⟨fun q=>?_,fun q=>?_⟩
 ·have hlt:i.j<n:=by simpa [BE.den,cmpB,IE.den] using q
  clear q;have hlL:i.j<L.length:=hn ▸ hlt;obtain⟨b,o,rfl⟩:=h0.base hlt;have hrg:=fun v (hv:bI v L (some ⟨b,o,none⟩) n c)=>hv.range hlL;have hpm:=List.getElem_mem hlL;generalize hpe:L[i.j]=p at hrg hpm ⊢;refine ga env (Fe.frm 1 _) aA ?_;refine aK (.pa fun _=>⟨b,o+i.j*19,none⟩) (fun B v F=>bX (e:=86) (n:=19) rfl Tryz.underlying33 (by kernel_rfl) (by rw[St.aC];rfl) (by rw[St.aC];rfl) hlt) ?_;refine ga env (Fe.frm 1 _) aA ?_;refine aK (.g (eS p.1 p.2)) (fun B v F=>dD (cs:=eQ p.1 p.2) (b:=b) (off:=o+i.j*19) rfl (by rw[St.aC];rfl) (hrg _ F.now.2) Tryz.underlying86 rfl (by kernel_rfl)) ?_;refine ga env (Fe.frm 1 _) aA ?_;intro B v F;refine(aHJ p.1 p.2 v (F.now.2.each _ hpm)).mono ?_;rintro e w2 ⟨rfl,hb⟩;cases hok:dO p.1 with
  | false =>
   refine⟨.b (.l false),_,rfl,(Fe.frm 1 _).b,F.on hb,?_⟩;clear F hb;refine ga env (Fe.frm 1 _) aA ?_;refine fa env (Fe.frm 1 _) ?_;intro B v F;refine⟨?_,F.now.1⟩;rw[show (L.all (dO ∘ fun p=>p.1))=false from yR (p:=fun p:cD × dN=>dO p.1) hlL (hpe ▸ hok)];rfl
  | true =>
   refine⟨.b (.l true),_,rfl,(Fe.frm 1 _).b,F.on hb,?_⟩;clear F hb;refine ga env (Fe.frm 1 _) aA ?_;refine qR hJ hlt (rO hlL i.hp (hpe ▸ hok)) (fun B=>⟨rfl,?_,trivial⟩) (fun _ _ h=>h);simp only[AV.den,IE.den,getT];rw[wrI hlt (by omega)]
 ·have hje:i.j=n:=by
   have:¬i.j<n:=by simpa [BE.den,cmpB,IE.den] using q
   have:=i.hj;omega
  have hall:=i.hp;rw[hje,<- hn,List.take_length]at hall;clear q;refine ga env (Fe.frm 1 _) aA ?_;refine fa env (Fe.frm 1 _) ?_;intro B v F;refine⟨?_,F.now.1⟩;rw[show (L.all (dO ∘ fun p=>p.1))=true from hall];rfl
