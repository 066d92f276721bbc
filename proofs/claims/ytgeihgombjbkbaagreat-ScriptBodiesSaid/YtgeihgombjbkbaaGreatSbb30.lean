/- For scbodies_law_holds. -/
import Derived.Test.YtgeihgombjbkbaaGreatSbb29
import Derived.Test.YtgeihgombjbkbaaGreatSbb25
set_option maxHeartbeats 16000000
set_option maxRecDepth 100000
namespace Go.Proofs.YtgeihgombjbkbaaGreat
open Go.RowKit Go.Maps Go.Proofs.Own
theorem sX {l:List Nat}{a:Option Addr}{c rb:Nat}{w:World}(hB:Bytes w (.slice a l.length c) l)(hv:l = []\/(Value.slice a l.length c).ownBlock=some rb)(hr:rb<w.heap.size):Calls Tryz.prog 80 #[.slice a l.length c] w (bC l w):=by
 have F0:Fo [] (fun _=>False) w (fun v=>Bytes v (.slice a l.length c) l) w []:=Fo.start nofun fun _ bv=>hB.below bv;clear hB;refine enter (fun _=>0) [.sl (fun _=>a) (fun _=>l.length) (fun _=>c)] [] Tryz.func80 rfl rfl F0 77 rfl ?_;refine ga env (Fo.frm _ _ _ _ 0 rfl) aA ?_;refine⟨fun q=>?_,fun q=>?_⟩
 ·have hl:2048<l.length:=by have q:decide ((l.length:Int) > 2048)=true:=q;simp only[decide_eq_true_eq]at q;omega
  refine ga env (Fo.frm _ _ _ _ 0 rfl) aA ?_;refine fa env (Fo.frm _ _ _ _ 0 rfl) ?_;intro B v F;unfold bC;rw[lG,if_pos hl];exact⟨bV,rfl,fun u _=>aS.zero u,F.bel⟩
 have hl:¬2048<l.length:=by have q:decide ((l.length:Int) > 2048)=false:=q;simp only[decide_eq_false_iff_not]at q;omega
 clear q;refine gn 8 env (Fo.frm _ _ _ _ 0 rfl) aA ?_;refine aIR 1 fun B v F=>?_;refine⟨FrD (B 1) rb w (fun _=>True) (Rz (B 1) rb (l,false)) 324 2 (.slice none 0 0) [],aLU 324 2 (L:=[(B 0,_)]) F F.now hv hr,?_⟩;have hwb:w.heap.size<=B 1:=by
  obtain⟨L',e1,f⟩:=F;have e1:_=L':=e1;exact(f.rng (B 1,_) (by rw[<- e1];exact List.mem_cons_of_mem _ List.mem_cons_self)).1
 clear F F0;generalize B 1=b at hwb ⊢;clear v;have hR:bW l=bW l:=rfl
 conv at hR=>rhs;unfold bW aAG
 refine ga env fd aA ?_;refine bY 12 _ rfl (by decide) ?_;refine gn 1 env fd aA ?_;refine fW 16 (.i .i64 (.cv .i64 (.x fun _=>(aB 12 l:Nat)))) (.i .i64 (.x fun _=>(aB 12 l:Nat))) (fun B=>congrArg (Value.int .i64) (cT (aD 12 _) (by decide))) ?_;refine ga env fd aA ?_;refine bY 8 _ rfl (by decide) ?_;refine ga env fd aA ?_;refine bY ALL _ rfl (by decide) ?_;refine ga env fd aA ?_;have hK9:((aB 12 l:Nat):Int)<=12:=by have:=aD 12 l;omega
 have hK0:(0:Int)<=((aB 12 l:Nat):Int):=by omega
 generalize aB 12 l=K at hK9 hK0 hR ⊢;generalize aB 8 (nS 12 (l,false)).1=cl at hR ⊢;generalize aB ALL (nS 8 (nS 12 (l,false))).1=rq at hR ⊢;generalize nS ALL (nS 8 (nS 12 (l,false)))=s3 at hR ⊢;by_cases h1:(K:Int)=1
 ·refine aH 27 false (e:=.cmp .neq (.x fun _=>(K:Int)) (.l 1)) (by show ((K:Int) != 1)=false;rw[h1];rfl) ?_;refine ga env fd aA ?_;refine⟨fun q=>absurd (show (K:Int)=2 by simpa [BE.den,cmpB,IE.den] using q) (by omega),fun q=>?_⟩;clear q;refine ga env fd aA ?_;refine⟨fun q=>absurd (show (K:Int)=3 by simpa [BE.den,cmpB,IE.den] using q) (by omega),fun q=>?_⟩;clear q;refine ga env fd aA ?_;refine⟨fun q=>absurd (show (K:Int)=4 by simpa [BE.den,cmpB,IE.den] using q) (by omega),fun q=>?_⟩;clear q;refine ga env fd aA ?_;refine⟨fun q=>absurd (show (K:Int)=9 by simpa [BE.den,cmpB,IE.den] using q) (by omega),fun q=>?_⟩;clear q;have hr1:bW l=(⟨K,cl,rq,0,0,0,bJ,bK⟩,s3):=by rw[hR,dS,if_neg (by omega),if_neg (by omega),if_neg (by omega),if_neg (by omega),if_pos h1]
  refine ga env fd aA ?_;have hr0:bW l=(⟨K,cl,rq,0,0,0,bJ,bK⟩,s3):=hr1;generalize hT:s3=t9 at hr0 ⊢;have HI:∀u,True->aS u ⟨K,cl,rq,0,0,0,bJ,bK⟩ bV:=fun u _=>⟨cD.zero u,bZ.zero u,gT.1,gT.2⟩;intro B w5 F;refine(fP b _ _ w5 F.z).mono ?_;rintro e w6 ⟨rfl,rfl⟩;rcases cV t9.1 t9.2 with hE|hE
  case inr =>
   refine⟨.i .i64 (.l 20),_,by rw[hE];rfl,fd.b,F,?_⟩;clear F;refine ga env fd aA ?_;refine fa env fd ?_;intro B v F;exact bC.bad (bE hr0 hl fun h=>by have h:=h.1;simp only at h;omega) (F.kept.below (Nat.le_refl _) fun k hk=>hk ▸ hwb)
  refine⟨.i .i64 (.l 0),_,by rw[hE];rfl,fd.b,F,?_⟩;clear F;refine ga env fd aA ?_;intro B v F;refine(cY ⟨K,cl,rq,0,0,0,bJ,bK⟩ bV v (HI _ F.now)).mono ?_;rintro e w7 ⟨rfl,hb⟩;cases hok:cR ⟨K,cl,rq,0,0,0,bJ,bK⟩ with
  | false =>
   refine⟨.b (.l false),_,rfl,fd.b,F.call hb,?_⟩;clear F hb;refine ga env fd aA ?_;refine fa env fd ?_;intro B v F;exact bC.bad (bE hr0 hl fun h=>by have h:=h.2;simp only at h;rw[hok]at h;cases h) (F.kept.below (Nat.le_refl _) fun k hk=>hk ▸ hwb)
  | true =>
   refine⟨.b (.l true),_,rfl,fd.b,F.call hb,?_⟩;clear F hb;refine ga env fd aA ?_;refine fa env fd ?_;intro B v F;unfold bC;rw[eH hr0 hl ⟨hE,hok⟩];exact⟨bV,rfl,F.old.imp HI,F.kept.below (Nat.le_refl _) fun k hk=>hk ▸ hwb⟩
 refine aH 27 true (e:=.cmp .neq (.x fun _=>(K:Int)) (.l 1)) (by show ((K:Int) != 1)=true;simpa using h1) ?_;refine ga env fd aA ?_;refine⟨fun q=>?_,fun q=>?_⟩
 ·have hk9:(K:Int)≠9:=by simpa [BE.den,cmpB,IE.den] using q
  clear q;refine ga env fd aA ?_;refine bY ALL _ rfl (by decide) ?_;refine ga env fd aA ?_;refine⟨fun q=>?_,fun q=>?_⟩
  ·have h2:(K:Int)=2:=by simpa [BE.den,cmpB,IE.den] using q
   clear q;refine ga env fd aA ?_;intro B w3 F;refine(sV F.z F.lt.2).mono ?_;rintro e w4 ⟨wa,wc,ca,cc,rfl,hs,hz,hk⟩;have hno:=@aJs (nS ALL s3);have hr1:bW l=(⟨K,cl,rq,(aB ALL s3.1:Nat),0,0,(dG (nS ALL s3)).1,bK⟩,(dG (nS ALL s3)).2.1):=by rw[hR,dS,if_pos h2]
   cases hb2:(dG (nS ALL s3)).2.2 with
   | false =>
    have h20:hP (dG (nS ALL s3)).2.1.1 (dG (nS ALL s3)).2.1.2=20:=by rw[hno hb2];rfl
    refine⟨.t [.g [.i .i64 (.x fun _=>(dG (nS ALL s3)).1.o),.sl (fun _=>wa) (fun _=>(dG (nS ALL s3)).1.w.length) (fun _=>wc),.sl (fun _=>ca) (fun _=>(dG (nS ALL s3)).1.c.length) (fun _=>cc)],.b (.l false)],_,rfl,fd.b,F.rdR hk (dT hz) hs,?_⟩;clear F hs hz hk w3 w4;refine ga env fd aA ?_;refine fa env fd ?_;intro B v F;exact bC.bad (bE hr1 hl fun h=>by have h:=h.1;simp only at h;rw[h20]at h;cases h) (F.kept.below (Nat.le_refl _) fun k hk=>hk ▸ hwb)
   | true =>
   refine⟨.t [.g [.i .i64 (.x fun _=>(dG (nS ALL s3)).1.o),.sl (fun _=>wa) (fun _=>(dG (nS ALL s3)).1.w.length) (fun _=>wc),.sl (fun _=>ca) (fun _=>(dG (nS ALL s3)).1.c.length) (fun _=>cc)],.b (.l true)],_,rfl,fd.b,F.rdR hk (dT hz) hs,?_⟩;clear F hs hz hk w3 w4 hb2 hno;generalize dG (nS ALL s3)=r at hr1 ⊢;generalize aB ALL s3.1=id at hr1 ⊢;refine ga env fd aA ?_;have hr0:bW l=(⟨K,cl,rq,id,0,0,r.1,bK⟩,r.2.1):=hr1;generalize hT:r.2.1=t9 at hr0 ⊢;clear hT;have HI:∀u,cD u r.1 wa r.1.w.length wc ca r.1.c.length cc/\True->aS u ⟨K,cl,rq,id,0,0,r.1,bK⟩ ⟨wa,r.1.w.length,wc,ca,r.1.c.length,cc,none,0,0⟩:=fun u h=>⟨h.1,bZ.zero u,gT.1,gT.2⟩;intro B w5 F;refine(fP b _ _ w5 F.z).mono ?_;rintro e w6 ⟨rfl,rfl⟩;rcases cV t9.1 t9.2 with hE|hE
   case inr =>
    refine⟨.i .i64 (.l 20),_,by rw[hE];rfl,fd.b,F,?_⟩;clear F;refine ga env fd aA ?_;refine fa env fd ?_;intro B v F;exact bC.bad (bE hr0 hl fun h=>by have h:=h.1;simp only at h;omega) (F.kept.below (Nat.le_refl _) fun k hk=>hk ▸ hwb)
   refine⟨.i .i64 (.l 0),_,by rw[hE];rfl,fd.b,F,?_⟩;clear F;refine ga env fd aA ?_;intro B v F;refine(cY ⟨K,cl,rq,id,0,0,r.1,bK⟩ ⟨wa,r.1.w.length,wc,ca,r.1.c.length,cc,none,0,0⟩ v (HI _ F.now)).mono ?_;rintro e w7 ⟨rfl,hb⟩;cases hok:cR ⟨K,cl,rq,id,0,0,r.1,bK⟩ with
   | false =>
    refine⟨.b (.l false),_,rfl,fd.b,F.call hb,?_⟩;clear F hb;refine ga env fd aA ?_;refine fa env fd ?_;intro B v F;exact bC.bad (bE hr0 hl fun h=>by have h:=h.2;simp only at h;rw[hok]at h;cases h) (F.kept.below (Nat.le_refl _) fun k hk=>hk ▸ hwb)
   | true =>
    refine⟨.b (.l true),_,rfl,fd.b,F.call hb,?_⟩;clear F hb;refine ga env fd aA ?_;refine fa env fd ?_;intro B v F;unfold bC;rw[eH hr0 hl ⟨hE,hok⟩];exact⟨⟨wa,r.1.w.length,wc,ca,r.1.c.length,cc,none,0,0⟩,rfl,F.old.imp HI,F.kept.below (Nat.le_refl _) fun k hk=>hk ▸ hwb⟩
  have h2:¬(K:Int)=2:=by simpa [BE.den,cmpB,IE.den] using q
  clear q;refine ga env fd aA ?_;refine⟨fun q=>?_,fun q=>?_⟩
  ·have h3:(K:Int)=3:=by simpa [BE.den,cmpB,IE.den] using q
   clear q;refine ga env fd aA ?_;intro B w3 F;refine(sY F.z F.lt.2).mono ?_;rintro e w4 ⟨la,lc,rfl,hs,hz,hk⟩;have hno:=@aJy (nS ALL s3);have hr1:bW l=(⟨K,cl,rq,(aB ALL s3.1:Nat),0,0,bJ,(dB (nS ALL s3)).1⟩,(dB (nS ALL s3)).2.1):=by rw[hR,dS,if_neg h2,if_pos h3]
   cases hb2:(dB (nS ALL s3)).2.2 with
   | false =>
    have h20:hP (dB (nS ALL s3)).2.1.1 (dB (nS ALL s3)).2.1.2=20:=by rw[hno hb2];rfl
    refine⟨.t [.g [.i .i64 (.x fun _=>(dB (nS ALL s3)).1.c),.sl (fun _=>la) (fun _=>(dB (nS ALL s3)).1.l.length) (fun _=>lc),.i .i64 (.x fun _=>(dB (nS ALL s3)).1.r),.i .i64 (.x fun _=>(dB (nS ALL s3)).1.b)],.b (.l false)],_,rfl,fd.b,F.rdR hk (dT hz) hs,?_⟩;clear F hs hz hk w3 w4;refine ga env fd aA ?_;refine fa env fd ?_;intro B v F;exact bC.bad (bE hr1 hl fun h=>by have h:=h.1;simp only at h;rw[h20]at h;cases h) (F.kept.below (Nat.le_refl _) fun k hk=>hk ▸ hwb)
   | true =>
   refine⟨.t [.g [.i .i64 (.x fun _=>(dB (nS ALL s3)).1.c),.sl (fun _=>la) (fun _=>(dB (nS ALL s3)).1.l.length) (fun _=>lc),.i .i64 (.x fun _=>(dB (nS ALL s3)).1.r),.i .i64 (.x fun _=>(dB (nS ALL s3)).1.b)],.b (.l true)],_,rfl,fd.b,F.rdR hk (dT hz) hs,?_⟩;clear F hs hz hk w3 w4 hb2 hno;generalize dB (nS ALL s3)=r at hr1 ⊢;generalize aB ALL s3.1=id at hr1 ⊢;refine ga env fd aA ?_;have hr0:bW l=(⟨K,cl,rq,id,0,0,bJ,r.1⟩,r.2.1):=hr1;generalize hT:r.2.1=t9 at hr0 ⊢;clear hT;have HI:∀u,bZ u r.1 la r.1.l.length lc/\True->aS u ⟨K,cl,rq,id,0,0,bJ,r.1⟩ ⟨none,0,0,none,0,0,la,r.1.l.length,lc⟩:=fun u h=>⟨cD.zero u,h.1,gT.1,gT.2⟩;intro B w5 F;refine(fP b _ _ w5 F.z).mono ?_;rintro e w6 ⟨rfl,rfl⟩;rcases cV t9.1 t9.2 with hE|hE
   case inr =>
    refine⟨.i .i64 (.l 20),_,by rw[hE];rfl,fd.b,F,?_⟩;clear F;refine ga env fd aA ?_;refine fa env fd ?_;intro B v F;exact bC.bad (bE hr0 hl fun h=>by have h:=h.1;simp only at h;omega) (F.kept.below (Nat.le_refl _) fun k hk=>hk ▸ hwb)
   refine⟨.i .i64 (.l 0),_,by rw[hE];rfl,fd.b,F,?_⟩;clear F;refine ga env fd aA ?_;intro B v F;refine(cY ⟨K,cl,rq,id,0,0,bJ,r.1⟩ ⟨none,0,0,none,0,0,la,r.1.l.length,lc⟩ v (HI _ F.now)).mono ?_;rintro e w7 ⟨rfl,hb⟩;cases hok:cR ⟨K,cl,rq,id,0,0,bJ,r.1⟩ with
   | false =>
    refine⟨.b (.l false),_,rfl,fd.b,F.call hb,?_⟩;clear F hb;refine ga env fd aA ?_;refine fa env fd ?_;intro B v F;exact bC.bad (bE hr0 hl fun h=>by have h:=h.2;simp only at h;rw[hok]at h;cases h) (F.kept.below (Nat.le_refl _) fun k hk=>hk ▸ hwb)
   | true =>
    refine⟨.b (.l true),_,rfl,fd.b,F.call hb,?_⟩;clear F hb;refine ga env fd aA ?_;refine fa env fd ?_;intro B v F;unfold bC;rw[eH hr0 hl ⟨hE,hok⟩];exact⟨⟨none,0,0,none,0,0,la,r.1.l.length,lc⟩,rfl,F.old.imp HI,F.kept.below (Nat.le_refl _) fun k hk=>hk ▸ hwb⟩
  have h3:¬(K:Int)=3:=by simpa [BE.den,cmpB,IE.den] using q
  clear q;refine ga env fd aA ?_;refine⟨fun q=>?_,fun q=>?_⟩
  ·have h4:(K:Int)=4:=by simpa [BE.den,cmpB,IE.den] using q
   clear q;refine ga env fd aA ?_;refine bY 15 _ rfl (by decide) ?_;have hr1:bW l=(⟨K,cl,rq,(aB ALL s3.1:Nat),(aB 15 (nS ALL s3).1:Nat),0,bJ,bK⟩,nS 15 (nS ALL s3)):=by rw[hR,dS,if_neg h2,if_neg h3,if_pos h4]
   have hct:IntKind.i64.wrap ((aB 15 (nS ALL s3).1:Nat):Int)=(aB 15 (nS ALL s3).1:Nat):=cT (aD 15 _) (by decide);rw[<- hct]at hr1;generalize aB 15 (nS ALL s3).1=ct at hr1 ⊢;generalize aB ALL s3.1=id at hr1 ⊢;generalize nS 15 (nS ALL s3)=t8 at hr1 ⊢;refine ga env fd aA ?_;have hr0:bW l=(⟨K,cl,rq,id,IntKind.i64.wrap ct,0,bJ,bK⟩,t8):=hr1;generalize hT:t8=t9 at hr0 ⊢;clear hT;have HI:∀u,True->aS u ⟨K,cl,rq,id,IntKind.i64.wrap ct,0,bJ,bK⟩ bV:=fun u _=>⟨cD.zero u,bZ.zero u,gT.1,gT.2⟩;intro B w5 F;refine(fP b _ _ w5 F.z).mono ?_;rintro e w6 ⟨rfl,rfl⟩;rcases cV t9.1 t9.2 with hE|hE
   case inr =>
    refine⟨.i .i64 (.l 20),_,by rw[hE];rfl,fd.b,F,?_⟩;clear F;refine ga env fd aA ?_;refine fa env fd ?_;intro B v F;exact bC.bad (bE hr0 hl fun h=>by have h:=h.1;simp only at h;omega) (F.kept.below (Nat.le_refl _) fun k hk=>hk ▸ hwb)
   refine⟨.i .i64 (.l 0),_,by rw[hE];rfl,fd.b,F,?_⟩;clear F;refine ga env fd aA ?_;intro B v F;refine(cY ⟨K,cl,rq,id,IntKind.i64.wrap ct,0,bJ,bK⟩ bV v (HI _ F.now)).mono ?_;rintro e w7 ⟨rfl,hb⟩;cases hok:cR ⟨K,cl,rq,id,IntKind.i64.wrap ct,0,bJ,bK⟩ with
   | false =>
    refine⟨.b (.l false),_,rfl,fd.b,F.call hb,?_⟩;clear F hb;refine ga env fd aA ?_;refine fa env fd ?_;intro B v F;exact bC.bad (bE hr0 hl fun h=>by have h:=h.2;simp only at h;rw[hok]at h;cases h) (F.kept.below (Nat.le_refl _) fun k hk=>hk ▸ hwb)
   | true =>
    refine⟨.b (.l true),_,rfl,fd.b,F.call hb,?_⟩;clear F hb;refine ga env fd aA ?_;refine fa env fd ?_;intro B v F;unfold bC;rw[eH hr0 hl ⟨hE,hok⟩];exact⟨bV,rfl,F.old.imp HI,F.kept.below (Nat.le_refl _) fun k hk=>hk ▸ hwb⟩
  have h4:¬(K:Int)=4:=by simpa [BE.den,cmpB,IE.den] using q
  clear q;refine ga env fd aA ?_;refine⟨fun q=>absurd (show (K:Int)=9 by simpa [BE.den,cmpB,IE.den] using q) (by omega),fun q=>?_⟩;clear q;have hr1:bW l=(⟨K,cl,rq,(aB ALL s3.1:Nat),0,0,bJ,bK⟩,nS ALL s3):=by rw[hR,dS,if_neg h2,if_neg h3,if_neg h4,if_neg hk9,if_neg h1]
  generalize aB ALL s3.1=id at hr1 ⊢;generalize nS ALL s3=t8 at hr1 ⊢;refine ga env fd aA ?_;have hr0:bW l=(⟨K,cl,rq,id,0,0,bJ,bK⟩,t8):=hr1;generalize hT:t8=t9 at hr0 ⊢;clear hT;have HI:∀u,True->aS u ⟨K,cl,rq,id,0,0,bJ,bK⟩ bV:=fun u _=>⟨cD.zero u,bZ.zero u,gT.1,gT.2⟩;intro B w5 F;refine(fP b _ _ w5 F.z).mono ?_;rintro e w6 ⟨rfl,rfl⟩;rcases cV t9.1 t9.2 with hE|hE
  case inr =>
   refine⟨.i .i64 (.l 20),_,by rw[hE];rfl,fd.b,F,?_⟩;clear F;refine ga env fd aA ?_;refine fa env fd ?_;intro B v F;exact bC.bad (bE hr0 hl fun h=>by have h:=h.1;simp only at h;omega) (F.kept.below (Nat.le_refl _) fun k hk=>hk ▸ hwb)
  refine⟨.i .i64 (.l 0),_,by rw[hE];rfl,fd.b,F,?_⟩;clear F;refine ga env fd aA ?_;intro B v F;refine(cY ⟨K,cl,rq,id,0,0,bJ,bK⟩ bV v (HI _ F.now)).mono ?_;rintro e w7 ⟨rfl,hb⟩;cases hok:cR ⟨K,cl,rq,id,0,0,bJ,bK⟩ with
  | false =>
   refine⟨.b (.l false),_,rfl,fd.b,F.call hb,?_⟩;clear F hb;refine ga env fd aA ?_;refine fa env fd ?_;intro B v F;exact bC.bad (bE hr0 hl fun h=>by have h:=h.2;simp only at h;rw[hok]at h;cases h) (F.kept.below (Nat.le_refl _) fun k hk=>hk ▸ hwb)
  | true =>
   refine⟨.b (.l true),_,rfl,fd.b,F.call hb,?_⟩;clear F hb;refine ga env fd aA ?_;refine fa env fd ?_;intro B v F;unfold bC;rw[eH hr0 hl ⟨hE,hok⟩];exact⟨bV,rfl,F.old.imp HI,F.kept.below (Nat.le_refl _) fun k hk=>hk ▸ hwb⟩
 have h9:(K:Int)=9:=by simpa [BE.den,cmpB,IE.den] using q
 clear q;refine ga env fd aA ?_;refine⟨fun q=>absurd (show (K:Int)=2 by simpa [BE.den,cmpB,IE.den] using q) (by omega),fun q=>?_⟩;clear q;refine ga env fd aA ?_;refine⟨fun q=>absurd (show (K:Int)=3 by simpa [BE.den,cmpB,IE.den] using q) (by omega),fun q=>?_⟩;clear q;refine ga env fd aA ?_;refine⟨fun q=>absurd (show (K:Int)=4 by simpa [BE.den,cmpB,IE.den] using q) (by omega),fun q=>?_⟩;clear q;refine ga env fd aA ?_;refine⟨fun q=>?_,fun q=>absurd (show (K:Int)=9 by omega) (by simpa [BE.den,cmpB,IE.den] using q)⟩;clear q;refine ga env fd aA ?_;refine xV ?_;have hr1:bW l=(⟨K,cl,rq,0,0,gN s3.1,bJ,bK⟩,iS s3):=by rw[hR,dS,if_neg (by omega),if_neg (by omega),if_neg (by omega),if_pos h9]
 have hi:=uF s3.1;generalize gN s3.1=at1 at hr1 hi ⊢;generalize iS s3=t8 at hr1 ⊢;refine ga env fd aA ?_;have hr0:bW l=(⟨K,cl,rq,0,0,at1,bJ,bK⟩,t8):=hr1;generalize hT:t8=t9 at hr0 ⊢;clear hT;have HI:∀u,True->aS u ⟨K,cl,rq,0,0,at1,bJ,bK⟩ bV:=fun u _=>⟨cD.zero u,bZ.zero u,hi.1,hi.2⟩;intro B w5 F;refine(fP b _ _ w5 F.z).mono ?_;rintro e w6 ⟨rfl,rfl⟩;rcases cV t9.1 t9.2 with hE|hE
 case inr =>
  refine⟨.i .i64 (.l 20),_,by rw[hE];rfl,fd.b,F,?_⟩;clear F;refine ga env fd aA ?_;refine fa env fd ?_;intro B v F;exact bC.bad (bE hr0 hl fun h=>by have h:=h.1;simp only at h;omega) (F.kept.below (Nat.le_refl _) fun k hk=>hk ▸ hwb)
 refine⟨.i .i64 (.l 0),_,by rw[hE];rfl,fd.b,F,?_⟩;clear F;refine ga env fd aA ?_;intro B v F;refine(cY ⟨K,cl,rq,0,0,at1,bJ,bK⟩ bV v (HI _ F.now)).mono ?_;rintro e w7 ⟨rfl,hb⟩;cases hok:cR ⟨K,cl,rq,0,0,at1,bJ,bK⟩ with
 | false =>
  refine⟨.b (.l false),_,rfl,fd.b,F.call hb,?_⟩;clear F hb;refine ga env fd aA ?_;refine fa env fd ?_;intro B v F;exact bC.bad (bE hr0 hl fun h=>by have h:=h.2;simp only at h;rw[hok]at h;cases h) (F.kept.below (Nat.le_refl _) fun k hk=>hk ▸ hwb)
 | true =>
  refine⟨.b (.l true),_,rfl,fd.b,F.call hb,?_⟩;clear F hb;refine ga env fd aA ?_;refine fa env fd ?_;intro B v F;unfold bC;rw[eH hr0 hl ⟨hE,hok⟩];exact⟨bV,rfl,F.old.imp HI,F.kept.below (Nat.le_refl _) fun k hk=>hk ▸ hwb⟩

def plGt:Nat->Option Pl
 | 13=>some ⟨[0,1,0,4,12,0,44,108,252,508,1023,2047,4095],472,[.h [0,1,2,5],.o 3,.h [4],.o 6,.h [7,8],.o 9,.o 10,.h [11],.o 12],[]⟩
 | _=>none
def aAu:List AV:=[.i .i64 (.l 0),.i .i64 (.l 0),.i .i64 (.l 0),.i .i64 (.l 0),.i .u64 (.l 0),.i .i64 (.l 0),.i .u64 (.l 0),.i .u64 (.l 0),.i .u64 (.l 0),.i .i64 (.l 0),.i .i64 (.l 0),.i .i64 (.l 0),.v (.slice none 0 0),.v (.slice none 0 0),.i .i64 (.l 0),.v (.slice none 0 0),.i .i64 (.l 0),.i .i64 (.l 0),.v (.slice none 0 0)]
def sC {m1 m2 n:Nat}{t0:RS}(b N:Nat)(i:PI m1 m2 n t0):List (Nat × AV):=[(0,.pa (fun _=>⟨b,0,none⟩)),(2,.p 0 0),(3,.f (.func 23) [.pa (fun _=>⟨b,0,none⟩)] []),(44,.i .u64 (.x fun _=>(N:Nat))),(45,.i .u64 (.x fun _=>(i.j:Int)))]
def getD {m1 m2 n:Nat}{t0:RS}(b N:Nat)(i:PI m1 m2 n t0):List (Nat × AV):=[(0,.pa (fun _=>⟨b,0,none⟩)),(2,.p 0 0),(3,.p 1 0),(7,.i .i64 (.x fun _=>(N:Nat))),(8,.i .i64 (.x fun _=>(i.j:Int)))]
theorem aIF {b rb:Nat}{w:World}{t:RS}(h:aE w b rb t.1 t.2)(hr:rb<w.heap.size):Calls Tryz.prog 26 #[.pointer (some ⟨b,0,none⟩)] w (xA b rb t w):=by
 have F0:FrD b rb w (fun _=>True) (Rz b rb t) 112 2 (.slice none 0 0) [] w []:=FrD.start w h.lt hr _ _ (Sf.all _ _) fun u bu=>h.below bu;have hlt:=aIQ h;refine enter (F:=FrD b rb w (fun _=>True) (Rz b rb t) 112 2 (.slice none 0 0) []) (fun _=>0) [.pa (fun _=>⟨b,0,none⟩)] [] Tryz.func26 rfl rfl F0 60 rfl ?_;clear F0 h;refine ga env fd plGt ?_;refine dF 20 _ rfl (by decide) ?_;refine gn 1 env fd plGt ?_;refine fW 11 (.i .i64 (.cv .i64 (.x fun _=>(aB 20 t.1:Nat)))) (.i .i64 (.x fun _=>(aB 20 t.1:Nat))) (fun B=>congrArg (Value.int .i64) (cT (aD 20 _) (by decide))) ?_;refine ga env fd plGt ?_;refine dF 8 _ rfl (by decide) ?_;refine gn 1 env fd plGt ?_;refine fW 14 (.i .i64 (.cv .i64 (.x fun _=>(aB 8 (nS 20 t).1:Nat)))) (.i .i64 (.x fun _=>(aB 8 (nS 20 t).1:Nat))) (fun B=>congrArg (Value.int .i64) (cT (aD 8 _) (by decide))) ?_;refine ga env fd plGt ?_;refine dF 7 _ rfl (by decide) ?_;refine gn 1 env fd plGt ?_;refine fW 17 (.i .i64 (.cv .i64 (.x fun _=>(aB 7 (nS 8 (nS 20 t)).1:Nat)))) (.i .i64 (.x fun _=>(aB 7 (nS 8 (nS 20 t)).1:Nat))) (fun B=>congrArg (Value.int .i64) (cT (aD 7 _) (by decide))) ?_;refine ga env fd plGt ?_;refine xU ?_;refine ga env fd plGt ?_;refine dF ALL _ rfl (by decide) ?_;refine ga env fd plGt ?_;refine bJG ?_;have hR:jH t=jH t:=rfl
 conv at hR=>rhs;unfold jH
 unfold xA;rw[hR];clear hR;generalize aB 20 t.1=xk;generalize aB 8 (nS 20 t).1=xw;generalize aB 7 (nS 8 (nS 20 t)).1=xt;generalize gN (nS 7 (nS 8 (nS 20 t))).1=xn;generalize aB ALL (iS (nS 7 (nS 8 (nS 20 t)))).1=xi;have h5:∀c ∈ dY 2048 (rP t).1,c<256:=fun c hc=>hlt c (jS (jS (jS (aIe (jS (yD c hc))))));generalize hs5:rP t=s5 at h5 ⊢;unfold rP at hs5;rw[hs5];clear hs5;have hC:rQ s5=rQ s5:=rfl
 conv at hC=>rhs;unfold rQ
 have hl5:=yC 2048 s5.1;generalize hT:dY 2048 s5.1=T at hC h5 hl5 ⊢;clear hT hlt;refine ga env fd plGt ?_;refine⟨fun q=>?_,fun q=>?_⟩
 ·have h0:T ≠ []:=fun e=>by
   subst e;have q:(!((eY []).toList==(eY []).toList))=true:=q;rw[mT rfl]at q;cases q
  clear q;rw[if_neg h0]at hC;refine ga env fd plGt ?_;refine aKH T _ h5 (Nat.le_trans hl5 (by decide)) h0 ?_;intro ta tc kb hkb;refine ga env fd plGt ?_;intro B v F;refine(sR F.now.1.1 (.inr hkb) F.now.1.2).mono ?_;rintro e w2 ⟨A,rfl,hs,hb⟩;generalize hCR:lG T=cr at hC hs ⊢;obtain⟨C,e⟩:=cr;refine⟨.t [.g (jJ (.x fun _=>C.k) C A),.i .i64 (.x fun _=>e)],_,rfl,fd.b,F.tM hb hs,?_⟩;clear F hb hs hCR;refine ga env fd plGt ?_;refine⟨fun q=>?_,fun q=>?_⟩
  ·have h1:¬e=0:=by simpa [BE.den,cmpB,IE.den] using q
   clear q;rw[if_neg h1]at hC;refine ga env fd plGt ?_;refine pB ?_;refine ga env fd plGt ?_;refine dF 16 _ rfl (by decide) ?_;refine ga env fd plGt ?_;rw[hC];have hN:aB 16 (([],true):RS).1<=16:=aD _ _;have hA:lP (([],true):RS)=prS 65535 4294967295 (aB 16 (([],true):RS).1) (nS 16 (([],true):RS)):=rfl;simp only;generalize lP (([],true):RS)=at7 at hA ⊢;generalize aB 16 (([],true):RS).1=N at hN hA ⊢;generalize nS 16 (([],true):RS)=t8 at hA ⊢;refine eA (fun i:PI 65535 4294967295 N t8=>FrD b rb w (fun u=>aS u C A/\(Bytes u (.slice ta T.length tc) T/\kb<u.heap.size)/\True) (Rz b rb i.t) 112 2 (.slice i.a i.j i.c) (i.L.map trV)) (fun i=>⟨mkT i.x (sC b N i) 0 61,[nY (.x fun _=>(xk:Int)) (.x fun _=>(xw:Int)) (.x fun _=>xn) (.x fun _=>(xt:Int)) (.x fun _=>(xi:Int)) C A (.sl (fun _=>i.a) (fun _=>i.j) (fun _=>i.c))]⟩) (fun i=>N-i.j) 61 (fun B w1 F=>?_) ?_
   ·exact⟨PI.zero _ _ _ _ _,sC b N (PI.zero 65535 4294967295 N t8 fun _=>undef),rfl,⟨rfl,rfl,rfl,rfl,rfl,trivial⟩,FrD.less (L:=[(B 0,_)]) F⟩
   intro i J hJ;refine ga env fd plGt ?_;refine⟨fun q=>?_,fun q=>?_⟩
   ·have hlt:i.j<N:=by simpa [BE.den,cmpB,IE.den] using q
    clear q;refine ga env fd plGt ?_;refine dF 65535 _ rfl (by decide) ?_;refine ga env fd plGt ?_;refine dF 4294967295 _ rfl (by decide) ?_;refine ga env fd plGt ?_;have hlen:(i.L.map trV).length=i.j:=by rw[List.length_map,i.hL]
    refine jI mU hlen (Nat.le_trans (Nat.le_of_lt hlt) (Nat.le_trans hN (by decide))) ?_;intro a' g c';refine ga env fd plGt ?_;refine fC 61 hJ (fun B v F=>?_);refine⟨i.next hlt a' c' _,sC b N (i.next hlt a' c' fun _=>undef),by show N-(i.j+1)<N-i.j;omega,rfl,⟨rfl,rfl,rfl,rfl,?_,trivial⟩,?_⟩
    ·simp only[AV.den,IE.den,getT];rw[show ((i.j:Nat):Int)+1=((i.j+1:Nat):Int) from rfl,wrU (by omega)];rfl
    ·have e:(i.next hlt a' c' (fun _=>undef)).L.map trV=i.L.map trV ++ [AV.denL (fun _=>0) [.i .u16 (.cv .u16 (.x fun _=>(aB 65535 i.t.1:Nat))),.i .u32 (.cv .u32 (.x fun _=>(aB 4294967295 (nS 65535 i.t).1:Nat)))]]:=by
      simp only[PI.next,List.map_append,List.map_cons,List.map_nil,trV,AV.denL,AV.den,IE.den];rw[aAo (aD 65535 _),aAp (aD 4294967295 _)]
     show FrD b rb w (fun u=>aS u C A/\(Bytes u (.slice ta T.length tc) T/\kb<u.heap.size)/\True) (Rz b rb (nS 4294967295 (nS 65535 i.t))) 112 2 (.slice a' (i.j+1) c') ((i.next hlt a' c' (fun _=>undef)).L.map trV) v _;rw[e];exact F
   have hje:i.j=N:=by
    have:¬i.j<N:=by simpa [BE.den,cmpB,IE.den] using q
    have:=i.hj;omega
   clear q hJ;obtain⟨hl,ht⟩:=i.last hje;rw[<- hA]at hl ht;have hjl:=i.hL;rw[ht,hl,<- hjl,hl];have hN2:at7.1.length<=16:=by rw[<- hl,hjl,hje];exact hN
   generalize i.a=a0;generalize i.c=c0;clear hl ht hjl hje hA hN;refine ga env fd plGt ?_;refine fa env fd ?_;intro B v F;have F:=F.kX 112 2;exact⟨⟨A,a0,at7.1.length,c0⟩,rfl,F.old.imp fun u h=>⟨h.2.1,aU.cX h.1,rfl,Nat.le_trans hN2 (by decide)⟩,F.z,F.kept⟩
  have h1:e=0:=by simpa [BE.den,cmpB,IE.den] using q
  clear q;rw[if_pos h1]at hC;refine ga env fd plGt ?_;refine dF 16 _ rfl (by decide) ?_;refine ga env fd plGt ?_;rw[hC];have hN:aB 16 (dP s5).1<=16:=aD _ _;have hA:lP (dP s5)=prS 65535 4294967295 (aB 16 (dP s5).1) (nS 16 (dP s5)):=rfl;simp only;generalize lP (dP s5)=at7 at hA ⊢;generalize aB 16 (dP s5).1=N at hN hA ⊢;generalize nS 16 (dP s5)=t8 at hA ⊢;refine eA (fun i:PI 65535 4294967295 N t8=>FrD b rb w (fun u=>aS u C A/\(Bytes u (.slice ta T.length tc) T/\kb<u.heap.size)/\True) (Rz b rb i.t) 112 2 (.slice i.a i.j i.c) (i.L.map trV)) (fun i=>⟨mkT i.x (sC b N i) 0 61,[nY (.x fun _=>(xk:Int)) (.x fun _=>(xw:Int)) (.x fun _=>xn) (.x fun _=>(xt:Int)) (.x fun _=>(xi:Int)) C A (.sl (fun _=>i.a) (fun _=>i.j) (fun _=>i.c))]⟩) (fun i=>N-i.j) 61 (fun B w1 F=>?_) ?_
  ·exact⟨PI.zero _ _ _ _ _,sC b N (PI.zero 65535 4294967295 N t8 fun _=>undef),rfl,⟨rfl,rfl,rfl,rfl,rfl,trivial⟩,FrD.less (L:=[(B 0,_)]) F⟩
  intro i J hJ;refine ga env fd plGt ?_;refine⟨fun q=>?_,fun q=>?_⟩
  ·have hlt:i.j<N:=by simpa [BE.den,cmpB,IE.den] using q
   clear q;refine ga env fd plGt ?_;refine dF 65535 _ rfl (by decide) ?_;refine ga env fd plGt ?_;refine dF 4294967295 _ rfl (by decide) ?_;refine ga env fd plGt ?_;have hlen:(i.L.map trV).length=i.j:=by rw[List.length_map,i.hL]
   refine jI mU hlen (Nat.le_trans (Nat.le_of_lt hlt) (Nat.le_trans hN (by decide))) ?_;intro a' g c';refine ga env fd plGt ?_;refine fC 61 hJ (fun B v F=>?_);refine⟨i.next hlt a' c' _,sC b N (i.next hlt a' c' fun _=>undef),by show N-(i.j+1)<N-i.j;omega,rfl,⟨rfl,rfl,rfl,rfl,?_,trivial⟩,?_⟩
   ·simp only[AV.den,IE.den,getT];rw[show ((i.j:Nat):Int)+1=((i.j+1:Nat):Int) from rfl,wrU (by omega)];rfl
   ·have e:(i.next hlt a' c' (fun _=>undef)).L.map trV=i.L.map trV ++ [AV.denL (fun _=>0) [.i .u16 (.cv .u16 (.x fun _=>(aB 65535 i.t.1:Nat))),.i .u32 (.cv .u32 (.x fun _=>(aB 4294967295 (nS 65535 i.t).1:Nat)))]]:=by
     simp only[PI.next,List.map_append,List.map_cons,List.map_nil,trV,AV.denL,AV.den,IE.den];rw[aAo (aD 65535 _),aAp (aD 4294967295 _)]
    show FrD b rb w (fun u=>aS u C A/\(Bytes u (.slice ta T.length tc) T/\kb<u.heap.size)/\True) (Rz b rb (nS 4294967295 (nS 65535 i.t))) 112 2 (.slice a' (i.j+1) c') ((i.next hlt a' c' (fun _=>undef)).L.map trV) v _;rw[e];exact F
  have hje:i.j=N:=by
   have:¬i.j<N:=by simpa [BE.den,cmpB,IE.den] using q
   have:=i.hj;omega
  clear q hJ;obtain⟨hl,ht⟩:=i.last hje;rw[<- hA]at hl ht;have hjl:=i.hL;rw[ht,hl,<- hjl,hl];have hN2:at7.1.length<=16:=by rw[<- hl,hjl,hje];exact hN
  generalize i.a=a0;generalize i.c=c0;clear hl ht hjl hje hA hN;refine ga env fd plGt ?_;refine fa env fd ?_;intro B v F;have F:=F.kX 112 2;exact⟨⟨A,a0,at7.1.length,c0⟩,rfl,F.old.imp fun u h=>⟨h.2.1,aU.cX h.1,rfl,Nat.le_trans hN2 (by decide)⟩,F.z,F.kept⟩
 have h0:T = []:=by
  by_cases h0:T = []
  ·exact h0
  ·have q:(!((eY T).toList==(eY []).toList))=false:=q;rw[wY (fun e=>h0 (pU h5 nofun e))]at q;cases q
 clear q;rw[if_pos h0]at hC;refine ga env fd plGt ?_;refine dF 16 _ rfl (by decide) ?_;refine ga env fd plGt ?_;rw[hC];have hN:aB 16 (dP s5).1<=16:=aD _ _;have hA:lP (dP s5)=prS 65535 4294967295 (aB 16 (dP s5).1) (nS 16 (dP s5)):=rfl;simp only;generalize lP (dP s5)=at7 at hA ⊢;generalize aB 16 (dP s5).1=N at hN hA ⊢;generalize nS 16 (dP s5)=t8 at hA ⊢;refine eA (fun i:PI 65535 4294967295 N t8=>FrD b rb w (fun u=>True) (Rz b rb i.t) 112 2 (.slice i.a i.j i.c) (i.L.map trV)) (fun i=>⟨mkT i.x (sC b N i) 0 61,[nY (.x fun _=>(xk:Int)) (.x fun _=>(xw:Int)) (.x fun _=>xn) (.x fun _=>(xt:Int)) (.x fun _=>(xi:Int)) iB bV (.sl (fun _=>i.a) (fun _=>i.j) (fun _=>i.c))]⟩) (fun i=>N-i.j) 61 (fun B w1 F=>?_) ?_
 ·exact⟨PI.zero _ _ _ _ _,sC b N (PI.zero 65535 4294967295 N t8 fun _=>undef),rfl,⟨rfl,rfl,rfl,rfl,rfl,trivial⟩,F⟩
 intro i J hJ;refine ga env fd plGt ?_;refine⟨fun q=>?_,fun q=>?_⟩
 ·have hlt:i.j<N:=by simpa [BE.den,cmpB,IE.den] using q
  clear q;refine ga env fd plGt ?_;refine dF 65535 _ rfl (by decide) ?_;refine ga env fd plGt ?_;refine dF 4294967295 _ rfl (by decide) ?_;refine ga env fd plGt ?_;have hlen:(i.L.map trV).length=i.j:=by rw[List.length_map,i.hL]
  refine jI mU hlen (Nat.le_trans (Nat.le_of_lt hlt) (Nat.le_trans hN (by decide))) ?_;intro a' g c';refine ga env fd plGt ?_;refine fC 61 hJ (fun B v F=>?_);refine⟨i.next hlt a' c' _,sC b N (i.next hlt a' c' fun _=>undef),by show N-(i.j+1)<N-i.j;omega,rfl,⟨rfl,rfl,rfl,rfl,?_,trivial⟩,?_⟩
  ·simp only[AV.den,IE.den,getT];rw[show ((i.j:Nat):Int)+1=((i.j+1:Nat):Int) from rfl,wrU (by omega)];rfl
  ·have e:(i.next hlt a' c' (fun _=>undef)).L.map trV=i.L.map trV ++ [AV.denL (fun _=>0) [.i .u16 (.cv .u16 (.x fun _=>(aB 65535 i.t.1:Nat))),.i .u32 (.cv .u32 (.x fun _=>(aB 4294967295 (nS 65535 i.t).1:Nat)))]]:=by
    simp only[PI.next,List.map_append,List.map_cons,List.map_nil,trV,AV.denL,AV.den,IE.den];rw[aAo (aD 65535 _),aAp (aD 4294967295 _)]
   show FrD b rb w (fun u=>True) (Rz b rb (nS 4294967295 (nS 65535 i.t))) 112 2 (.slice a' (i.j+1) c') ((i.next hlt a' c' (fun _=>undef)).L.map trV) v _;rw[e];exact F
 have hje:i.j=N:=by
  have:¬i.j<N:=by simpa [BE.den,cmpB,IE.den] using q
  have:=i.hj;omega
 clear q hJ;obtain⟨hl,ht⟩:=i.last hje;rw[<- hA]at hl ht;have hjl:=i.hL;rw[ht,hl,<- hjl,hl];have hN2:at7.1.length<=16:=by rw[<- hl,hjl,hje];exact hN
 generalize i.a=a0;generalize i.c=c0;clear hl ht hjl hje hA hN;refine ga env fd plGt ?_;refine fa env fd ?_;intro B v F;have F:=F.kX 112 2;exact⟨⟨bV,a0,at7.1.length,c0⟩,rfl,F.old.imp fun u h=>⟨aS.zero u,aU.cX h.1,rfl,Nat.le_trans hN2 (by decide)⟩,F.z,F.kept⟩
theorem aIT {b rb:Nat}{w:World}{t:RS}(h:aE w b rb t.1 t.2)(hr:rb<w.heap.size):Calls Tryz.prog 31 #[.pointer (some ⟨b,0,none⟩)] w (xA b rb t w):=by
 have F0:FrD b rb w (fun _=>True) (Rz b rb t) 121 2 (.slice none 0 0) [] w []:=FrD.start w h.lt hr _ _ (Sf.all _ _) fun u bu=>h.below bu;have hlt:=aIQ h;refine enter (F:=FrD b rb w (fun _=>True) (Rz b rb t) 121 2 (.slice none 0 0) []) (fun _=>0) [.pa (fun _=>⟨b,0,none⟩)] [] Tryz.func31 rfl rfl F0 66 rfl ?_;clear F0 h;refine ga env fd aA ?_;refine bY 20 _ rfl (by decide) ?_;refine gn 1 env fd aA ?_;refine fW 12 (.i .i64 (.cv .i64 (.x fun _=>(aB 20 t.1:Nat)))) (.i .i64 (.x fun _=>(aB 20 t.1:Nat))) (fun B=>congrArg (Value.int .i64) (cT (aD 20 _) (by decide))) ?_;refine ga env fd aA ?_;refine bY 8 _ rfl (by decide) ?_;refine gn 1 env fd aA ?_;refine fW 16 (.i .i64 (.cv .i64 (.x fun _=>(aB 8 (nS 20 t).1:Nat)))) (.i .i64 (.x fun _=>(aB 8 (nS 20 t).1:Nat))) (fun B=>congrArg (Value.int .i64) (cT (aD 8 _) (by decide))) ?_;refine ga env fd aA ?_;refine bY 7 _ rfl (by decide) ?_;refine gn 1 env fd aA ?_;refine fW 20 (.i .i64 (.cv .i64 (.x fun _=>(aB 7 (nS 8 (nS 20 t)).1:Nat)))) (.i .i64 (.x fun _=>(aB 7 (nS 8 (nS 20 t)).1:Nat))) (fun B=>congrArg (Value.int .i64) (cT (aD 7 _) (by decide))) ?_;refine ga env fd aA ?_;refine xV ?_;refine ga env fd aA ?_;refine bY ALL _ rfl (by decide) ?_;refine ga env fd aA ?_;refine bJH ?_;have hR:jH t=jH t:=rfl
 conv at hR=>rhs;unfold jH
 unfold xA;rw[hR];clear hR;generalize aB 20 t.1=xk;generalize aB 8 (nS 20 t).1=xw;generalize aB 7 (nS 8 (nS 20 t)).1=xt;generalize gN (nS 7 (nS 8 (nS 20 t))).1=xn;generalize aB ALL (iS (nS 7 (nS 8 (nS 20 t)))).1=xi;have h5:∀c ∈ dY 2048 (rP t).1,c<256:=fun c hc=>hlt c (jS (jS (jS (aIe (jS (yD c hc))))));generalize hs5:rP t=s5 at h5 ⊢;unfold rP at hs5;rw[hs5];clear hs5;have hC:rQ s5=rQ s5:=rfl
 conv at hC=>rhs;unfold rQ
 have hl5:=yC 2048 s5.1;generalize hT:dY 2048 s5.1=T at hC h5 hl5 ⊢;clear hT hlt;refine ga env fd aA ?_;refine⟨fun q=>?_,fun q=>?_⟩
 ·have h0:T ≠ []:=fun e=>by
   subst e;have q:(!((eY []).toList==(eY []).toList))=true:=q;rw[mT rfl]at q;cases q
  clear q;rw[if_neg h0]at hC;refine ga env fd aA ?_;refine aKH T _ h5 (Nat.le_trans hl5 (by decide)) h0 ?_;intro ta tc kb hkb;refine ga env fd aA ?_;intro B v F;refine(sX F.now.1.1 (.inr hkb) F.now.1.2).mono ?_;rintro e w2 ⟨A,rfl,hs,hb⟩;generalize hCR:lG T=cr at hC hs ⊢;obtain⟨C,e⟩:=cr;refine⟨.t [.g (jJ (.x fun _=>C.k) C A),.i .i64 (.x fun _=>e)],_,rfl,fd.b,F.tM hb hs,?_⟩;clear F hb hs hCR;refine ga env fd aA ?_;refine⟨fun q=>?_,fun q=>?_⟩
  ·have h1:¬e=0:=by simpa [BE.den,cmpB,IE.den] using q
   clear q;rw[if_neg h1]at hC;refine ga env fd aA ?_;refine pD ?_;refine ga env fd aA ?_;refine bY 16 _ rfl (by decide) ?_;refine gn 1 env fd aA ?_;refine fW 46 (.i .i64 (.cv .i64 (.x fun _=>(aB 16 (([],true):RS).1:Nat)))) (.i .i64 (.x fun _=>(aB 16 (([],true):RS).1:Nat))) (fun B=>congrArg (Value.int .i64) (cT (aD 16 _) (by decide))) ?_;refine ga env fd aA ?_;rw[hC];have hN:aB 16 (([],true):RS).1<=16:=aD _ _;have hA:lP (([],true):RS)=prS 65535 4294967295 (aB 16 (([],true):RS).1) (nS 16 (([],true):RS)):=rfl;simp only;generalize lP (([],true):RS)=at7 at hA ⊢;generalize aB 16 (([],true):RS).1=N at hN hA ⊢;generalize nS 16 (([],true):RS)=t8 at hA ⊢;refine eA (fun i:PI 65535 4294967295 N t8=>FrD b rb w (fun u=>aS u C A/\(Bytes u (.slice ta T.length tc) T/\kb<u.heap.size)/\True) (Rz b rb i.t) 121 2 (.slice i.a i.j i.c) (i.L.map trV)) (fun i=>⟨mkT i.x (getD b N i) 0 67,[aAu,nY (.x fun _=>(xk:Int)) (.x fun _=>(xw:Int)) (.x fun _=>xn) (.x fun _=>(xt:Int)) (.x fun _=>(xi:Int)) C A (.sl (fun _=>i.a) (fun _=>i.j) (fun _=>i.c))]⟩) (fun i=>N-i.j) 67 (fun B w1 F=>?_) ?_
   ·exact⟨PI.zero _ _ _ _ _,getD b N (PI.zero 65535 4294967295 N t8 fun _=>undef),rfl,⟨rfl,rfl,rfl,rfl,rfl,trivial⟩,FrD.less (L:=[(B 0,_),(B 1,_)]) F⟩
   intro i J hJ;refine ga env fd aA ?_;refine⟨fun q=>?_,fun q=>?_⟩
   ·have hlt:i.j<N:=by simpa [BE.den,cmpB,IE.den] using q
    clear q;refine ga env fd aA ?_;refine bY 65535 _ rfl (by decide) ?_;refine ga env fd aA ?_;refine bY 4294967295 _ rfl (by decide) ?_;refine ga env fd aA ?_;have hlen:(i.L.map trV).length=i.j:=by rw[List.length_map,i.hL]
    refine oA iY hlen (Nat.le_trans (Nat.le_of_lt hlt) (Nat.le_trans hN (by decide))) ?_;intro a' g c';refine ga env fd aA ?_;refine fC 67 hJ (fun B v F=>?_);refine⟨i.next hlt a' c' _,getD b N (i.next hlt a' c' fun _=>undef),by show N-(i.j+1)<N-i.j;omega,rfl,⟨rfl,rfl,rfl,rfl,?_,trivial⟩,?_⟩
    ·simp only[AV.den,IE.den,getT];rw[show ((i.j:Nat):Int)+1=((i.j+1:Nat):Int) from rfl,cT (Nat.le_refl _) (by omega)];rfl
    ·have e:(i.next hlt a' c' (fun _=>undef)).L.map trV=i.L.map trV ++ [AV.denL (fun _=>0) [.i .u16 (.cv .u16 (.x fun _=>(aB 65535 i.t.1:Nat))),.i .u32 (.cv .u32 (.x fun _=>(aB 4294967295 (nS 65535 i.t).1:Nat)))]]:=by
      simp only[PI.next,List.map_append,List.map_cons,List.map_nil,trV,AV.denL,AV.den,IE.den];rw[aAo (aD 65535 _),aAp (aD 4294967295 _)]
     show FrD b rb w (fun u=>aS u C A/\(Bytes u (.slice ta T.length tc) T/\kb<u.heap.size)/\True) (Rz b rb (nS 4294967295 (nS 65535 i.t))) 121 2 (.slice a' (i.j+1) c') ((i.next hlt a' c' (fun _=>undef)).L.map trV) v _;rw[e];exact FrD.less (L:=[(B 0,_),(B 1,_)]) F
   have hje:i.j=N:=by
    have:¬i.j<N:=by simpa [BE.den,cmpB,IE.den] using q
    have:=i.hj;omega
   clear q hJ;obtain⟨hl,ht⟩:=i.last hje;rw[<- hA]at hl ht;have hjl:=i.hL;rw[ht,hl,<- hjl,hl];have hN2:at7.1.length<=16:=by rw[<- hl,hjl,hje];exact hN
   generalize i.a=a0;generalize i.c=c0;clear hl ht hjl hje hA hN;refine ga env fd aA ?_;refine fa env fd ?_;intro B v F;have F:=F.kX 121 2;exact⟨⟨A,a0,at7.1.length,c0⟩,rfl,F.old.imp fun u h=>⟨h.2.1,aU.cX h.1,rfl,Nat.le_trans hN2 (by decide)⟩,F.z,F.kept⟩
  have h1:e=0:=by simpa [BE.den,cmpB,IE.den] using q
  clear q;rw[if_pos h1]at hC;refine ga env fd aA ?_;refine bY 16 _ rfl (by decide) ?_;refine gn 1 env fd aA ?_;refine fW 46 (.i .i64 (.cv .i64 (.x fun _=>(aB 16 (dP s5).1:Nat)))) (.i .i64 (.x fun _=>(aB 16 (dP s5).1:Nat))) (fun B=>congrArg (Value.int .i64) (cT (aD 16 _) (by decide))) ?_;refine ga env fd aA ?_;rw[hC];have hN:aB 16 (dP s5).1<=16:=aD _ _;have hA:lP (dP s5)=prS 65535 4294967295 (aB 16 (dP s5).1) (nS 16 (dP s5)):=rfl;simp only;generalize lP (dP s5)=at7 at hA ⊢;generalize aB 16 (dP s5).1=N at hN hA ⊢;generalize nS 16 (dP s5)=t8 at hA ⊢;refine eA (fun i:PI 65535 4294967295 N t8=>FrD b rb w (fun u=>aS u C A/\(Bytes u (.slice ta T.length tc) T/\kb<u.heap.size)/\True) (Rz b rb i.t) 121 2 (.slice i.a i.j i.c) (i.L.map trV)) (fun i=>⟨mkT i.x (getD b N i) 0 67,[aAu,nY (.x fun _=>(xk:Int)) (.x fun _=>(xw:Int)) (.x fun _=>xn) (.x fun _=>(xt:Int)) (.x fun _=>(xi:Int)) C A (.sl (fun _=>i.a) (fun _=>i.j) (fun _=>i.c))]⟩) (fun i=>N-i.j) 67 (fun B w1 F=>?_) ?_
  ·exact⟨PI.zero _ _ _ _ _,getD b N (PI.zero 65535 4294967295 N t8 fun _=>undef),rfl,⟨rfl,rfl,rfl,rfl,rfl,trivial⟩,FrD.less (L:=[(B 0,_),(B 1,_)]) F⟩
  intro i J hJ;refine ga env fd aA ?_;refine⟨fun q=>?_,fun q=>?_⟩
  ·have hlt:i.j<N:=by simpa [BE.den,cmpB,IE.den] using q
   clear q;refine ga env fd aA ?_;refine bY 65535 _ rfl (by decide) ?_;refine ga env fd aA ?_;refine bY 4294967295 _ rfl (by decide) ?_;refine ga env fd aA ?_;have hlen:(i.L.map trV).length=i.j:=by rw[List.length_map,i.hL]
   refine oA iY hlen (Nat.le_trans (Nat.le_of_lt hlt) (Nat.le_trans hN (by decide))) ?_;intro a' g c';refine ga env fd aA ?_;refine fC 67 hJ (fun B v F=>?_);refine⟨i.next hlt a' c' _,getD b N (i.next hlt a' c' fun _=>undef),by show N-(i.j+1)<N-i.j;omega,rfl,⟨rfl,rfl,rfl,rfl,?_,trivial⟩,?_⟩
   ·simp only[AV.den,IE.den,getT];rw[show ((i.j:Nat):Int)+1=((i.j+1:Nat):Int) from rfl,cT (Nat.le_refl _) (by omega)];rfl
   ·have e:(i.next hlt a' c' (fun _=>undef)).L.map trV=i.L.map trV ++ [AV.denL (fun _=>0) [.i .u16 (.cv .u16 (.x fun _=>(aB 65535 i.t.1:Nat))),.i .u32 (.cv .u32 (.x fun _=>(aB 4294967295 (nS 65535 i.t).1:Nat)))]]:=by
     simp only[PI.next,List.map_append,List.map_cons,List.map_nil,trV,AV.denL,AV.den,IE.den];rw[aAo (aD 65535 _),aAp (aD 4294967295 _)]
    show FrD b rb w (fun u=>aS u C A/\(Bytes u (.slice ta T.length tc) T/\kb<u.heap.size)/\True) (Rz b rb (nS 4294967295 (nS 65535 i.t))) 121 2 (.slice a' (i.j+1) c') ((i.next hlt a' c' (fun _=>undef)).L.map trV) v _;rw[e];exact FrD.less (L:=[(B 0,_),(B 1,_)]) F
  have hje:i.j=N:=by
   have:¬i.j<N:=by simpa [BE.den,cmpB,IE.den] using q
   have:=i.hj;omega
  clear q hJ;obtain⟨hl,ht⟩:=i.last hje;rw[<- hA]at hl ht;have hjl:=i.hL;rw[ht,hl,<- hjl,hl];have hN2:at7.1.length<=16:=by rw[<- hl,hjl,hje];exact hN
  generalize i.a=a0;generalize i.c=c0;clear hl ht hjl hje hA hN;refine ga env fd aA ?_;refine fa env fd ?_;intro B v F;have F:=F.kX 121 2;exact⟨⟨A,a0,at7.1.length,c0⟩,rfl,F.old.imp fun u h=>⟨h.2.1,aU.cX h.1,rfl,Nat.le_trans hN2 (by decide)⟩,F.z,F.kept⟩
 have h0:T = []:=by
  by_cases h0:T = []
  ·exact h0
  ·have q:(!((eY T).toList==(eY []).toList))=false:=q;rw[wY (fun e=>h0 (pU h5 nofun e))]at q;cases q
 clear q;rw[if_pos h0]at hC;refine ga env fd aA ?_;refine bY 16 _ rfl (by decide) ?_;refine gn 1 env fd aA ?_;refine fW 46 (.i .i64 (.cv .i64 (.x fun _=>(aB 16 (dP s5).1:Nat)))) (.i .i64 (.x fun _=>(aB 16 (dP s5).1:Nat))) (fun B=>congrArg (Value.int .i64) (cT (aD 16 _) (by decide))) ?_;refine ga env fd aA ?_;rw[hC];have hN:aB 16 (dP s5).1<=16:=aD _ _;have hA:lP (dP s5)=prS 65535 4294967295 (aB 16 (dP s5).1) (nS 16 (dP s5)):=rfl;simp only;generalize lP (dP s5)=at7 at hA ⊢;generalize aB 16 (dP s5).1=N at hN hA ⊢;generalize nS 16 (dP s5)=t8 at hA ⊢;refine eA (fun i:PI 65535 4294967295 N t8=>FrD b rb w (fun u=>True) (Rz b rb i.t) 121 2 (.slice i.a i.j i.c) (i.L.map trV)) (fun i=>⟨mkT i.x (getD b N i) 0 67,[aAu,nY (.x fun _=>(xk:Int)) (.x fun _=>(xw:Int)) (.x fun _=>xn) (.x fun _=>(xt:Int)) (.x fun _=>(xi:Int)) iB bV (.sl (fun _=>i.a) (fun _=>i.j) (fun _=>i.c))]⟩) (fun i=>N-i.j) 67 (fun B w1 F=>?_) ?_
 ·exact⟨PI.zero _ _ _ _ _,getD b N (PI.zero 65535 4294967295 N t8 fun _=>undef),rfl,⟨rfl,rfl,rfl,rfl,rfl,trivial⟩,F⟩
 intro i J hJ;refine ga env fd aA ?_;refine⟨fun q=>?_,fun q=>?_⟩
 ·have hlt:i.j<N:=by simpa [BE.den,cmpB,IE.den] using q
  clear q;refine ga env fd aA ?_;refine bY 65535 _ rfl (by decide) ?_;refine ga env fd aA ?_;refine bY 4294967295 _ rfl (by decide) ?_;refine ga env fd aA ?_;have hlen:(i.L.map trV).length=i.j:=by rw[List.length_map,i.hL]
  refine oA iY hlen (Nat.le_trans (Nat.le_of_lt hlt) (Nat.le_trans hN (by decide))) ?_;intro a' g c';refine ga env fd aA ?_;refine fC 67 hJ (fun B v F=>?_);refine⟨i.next hlt a' c' _,getD b N (i.next hlt a' c' fun _=>undef),by show N-(i.j+1)<N-i.j;omega,rfl,⟨rfl,rfl,rfl,rfl,?_,trivial⟩,?_⟩
  ·simp only[AV.den,IE.den,getT];rw[show ((i.j:Nat):Int)+1=((i.j+1:Nat):Int) from rfl,cT (Nat.le_refl _) (by omega)];rfl
  ·have e:(i.next hlt a' c' (fun _=>undef)).L.map trV=i.L.map trV ++ [AV.denL (fun _=>0) [.i .u16 (.cv .u16 (.x fun _=>(aB 65535 i.t.1:Nat))),.i .u32 (.cv .u32 (.x fun _=>(aB 4294967295 (nS 65535 i.t).1:Nat)))]]:=by
    simp only[PI.next,List.map_append,List.map_cons,List.map_nil,trV,AV.denL,AV.den,IE.den];rw[aAo (aD 65535 _),aAp (aD 4294967295 _)]
   show FrD b rb w (fun u=>True) (Rz b rb (nS 4294967295 (nS 65535 i.t))) 121 2 (.slice a' (i.j+1) c') ((i.next hlt a' c' (fun _=>undef)).L.map trV) v _;rw[e];exact FrD.less (L:=[(B 0,_),(B 1,_)]) F
 have hje:i.j=N:=by
  have:¬i.j<N:=by simpa [BE.den,cmpB,IE.den] using q
  have:=i.hj;omega
 clear q hJ;obtain⟨hl,ht⟩:=i.last hje;rw[<- hA]at hl ht;have hjl:=i.hL;rw[ht,hl,<- hjl,hl];have hN2:at7.1.length<=16:=by rw[<- hl,hjl,hje];exact hN
 generalize i.a=a0;generalize i.c=c0;clear hl ht hjl hje hA hN;refine ga env fd aA ?_;refine fa env fd ?_;intro B v F;have F:=F.kX 121 2;exact⟨⟨bV,a0,at7.1.length,c0⟩,rfl,F.old.imp fun u h=>⟨aS.zero u,aU.cX h.1,rfl,Nat.le_trans hN2 (by decide)⟩,F.z,F.kept⟩

def aKT (a:cS):Bool:=decide (1<=a.k/\a.k<=20/\0<=a.who/\a.who<=8/\0<=a.to/\a.to<=7 /\ -1125899906842624<=a.n/\a.n<=1125899906842624/\a.ts.length<=16)
def eF (a:cS):Bool:=aKT a&&(decide (a.com=iB) || cR a.com)
theorem bR {a:cS}(h:aKT a=false):eF a=false:=by unfold eF;rw[h];rfl
theorem qK {a:cS}(h:aKT a=true):eF a=(decide (a.com=iB) || cR a.com):=by unfold eF;rw[h];rfl
def fK (a:cS)(A:dN):List AV:=nY (.x fun _=>a.k) (.x fun _=>a.who) (.x fun _=>a.n) (.x fun _=>a.to) (.x fun _=>a.id) a.com A.com (.sl (fun _=>A.ta) (fun _=>A.tn) (fun _=>A.tc))
theorem zR (c:dR)(A:gS)(w:World)(h:aS w c A):Calls Tryz.prog 84 #[.agg (iL c A).toArray] w fun e w'=>e = .returned (.bool (decide (c=iB)))/\Below w.heap.size w w':=by
 have F0:Fo [] (fun _=>False) w (fun v=>Below w.heap.size w v/\aS v c A) w []:=Fo.start nofun fun _ bv=>⟨bv,h.below bv⟩;clear h;refine enter (fun _=>0) [.g (jJ (.x fun _=>c.k) c A)] [] Tryz.func84 rfl rfl F0 5 rfl ?_;refine ga env (Fo.frm _ _ _ _ 0 rfl) aA ?_;intro B v F;refine(mC c iB A bV v F.now.2 (aS.zero v)).mono ?_;rintro e w2 ⟨rfl,hb⟩;refine⟨.b (.x fun _=>decide (c=iB)),_,rfl,(Fo.frm _ _ _ _ _ rfl).b,F.on hb,?_⟩;clear F hb;refine ga env (Fo.frm _ _ _ _ 1 rfl) aA ?_;refine fa env (Fo.frm _ _ _ _ 1 rfl) ?_;intro B v F;exact⟨rfl,F.now.1⟩
theorem aAc (c:dR)(A:gS)(w:World)(h:aS w c A):Calls Tryz.prog 55 #[.agg (iL c A).toArray] w fun e w'=>e = .returned (.bool (decide (c=iB)))/\Below w.heap.size w w':=by
 have F0:Fo [] (fun _=>False) w (fun v=>Below w.heap.size w v/\aS v c A) w []:=Fo.start nofun fun _ bv=>⟨bv,h.below bv⟩;clear h;refine enter (fun _=>0) [.g (jJ (.x fun _=>c.k) c A)] [] Tryz.func55 rfl rfl F0 5 rfl ?_;refine ga env (Fo.frm _ _ _ _ 0 rfl) aA ?_;intro B v F;refine(iU c iB A bV v F.now.2 (aS.zero v)).mono ?_;rintro e w2 ⟨rfl,hb⟩;refine⟨.b (.x fun _=>decide (c=iB)),_,rfl,(Fo.frm _ _ _ _ _ rfl).b,F.on hb,?_⟩;clear F hb;refine ga env (Fo.frm _ _ _ _ 1 rfl) aA ?_;refine fa env (Fo.frm _ _ _ _ 1 rfl) ?_;intro B v F;exact⟨rfl,F.now.1⟩
theorem aIv (a:cS)(A:dN)(w:World)(h:cL w a A):Calls Tryz.prog 45 #[.agg (eZ a A).toArray] w fun e w'=>e = .returned (.bool (eF a))/\Below w.heap.size w w':=by
 have F0:Fo [] (fun _=>False) w (fun v=>Below w.heap.size w v/\cL v a A) w []:=Fo.start nofun fun _ bv=>⟨bv,h.below bv⟩;have hn:=h.n;clear h;refine enter (fun _=>0) [.g (fK a A)] [] Tryz.func45 rfl rfl F0 54 rfl ?_;refine ga env (Fo.frm _ _ _ _ 0 rfl) aA ?_;by_cases h1:a.k<1
 ·refine aH 7 true (e:=.cmp .lss (.x fun _=>a.k) (.l 1)) (decide_eq_true h1) ?_;rw[bR (decide_eq_false (fun h=>by omega))];refine ga env (Fo.frm _ _ _ _ 0 rfl) aA ?_;refine fa env (Fo.frm _ _ _ _ 0 rfl) ?_;intro B v F;exact⟨rfl,F.now.1⟩
 refine aH 7 false (e:=.cmp .lss (.x fun _=>a.k) (.l 1)) (decide_eq_false h1) ?_;refine ga env (Fo.frm _ _ _ _ 0 rfl) aA ?_;by_cases h2:a.k > 20
 ·refine aH 12 true (e:=.cmp .gtr (.x fun _=>a.k) (.l 20)) (decide_eq_true h2) ?_;rw[bR (decide_eq_false (fun h=>by omega))];refine ga env (Fo.frm _ _ _ _ 0 rfl) aA ?_;refine fa env (Fo.frm _ _ _ _ 0 rfl) ?_;intro B v F;exact⟨rfl,F.now.1⟩
 refine aH 12 false (e:=.cmp .gtr (.x fun _=>a.k) (.l 20)) (decide_eq_false h2) ?_;refine ga env (Fo.frm _ _ _ _ 0 rfl) aA ?_;by_cases h3:a.who<0
 ·refine aH 17 true (e:=.cmp .lss (.x fun _=>a.who) (.l 0)) (decide_eq_true h3) ?_;rw[bR (decide_eq_false (fun h=>by omega))];refine ga env (Fo.frm _ _ _ _ 0 rfl) aA ?_;refine fa env (Fo.frm _ _ _ _ 0 rfl) ?_;intro B v F;exact⟨rfl,F.now.1⟩
 refine aH 17 false (e:=.cmp .lss (.x fun _=>a.who) (.l 0)) (decide_eq_false h3) ?_;refine ga env (Fo.frm _ _ _ _ 0 rfl) aA ?_;refine⟨fun q=>?_,fun q=>?_⟩
 ·have h4:a.who > 8:=by simpa [BE.den,cmpB,IE.den] using q
  rw[bR (decide_eq_false (fun h=>by omega))];refine ga env (Fo.frm _ _ _ _ 0 rfl) aA ?_;refine fa env (Fo.frm _ _ _ _ 0 rfl) ?_;intro B v F;exact⟨rfl,F.now.1⟩
 have h4:¬a.who > 8:=by simpa [BE.den,cmpB,IE.den] using q
 clear q;refine ga env (Fo.frm _ _ _ _ 0 rfl) aA ?_;by_cases h5:a.to<0
 ·refine aH 26 true (e:=.cmp .lss (.x fun _=>a.to) (.l 0)) (decide_eq_true h5) ?_;rw[bR (decide_eq_false (fun h=>by omega))];refine ga env (Fo.frm _ _ _ _ 0 rfl) aA ?_;refine fa env (Fo.frm _ _ _ _ 0 rfl) ?_;intro B v F;exact⟨rfl,F.now.1⟩
 refine aH 26 false (e:=.cmp .lss (.x fun _=>a.to) (.l 0)) (decide_eq_false h5) ?_;refine ga env (Fo.frm _ _ _ _ 0 rfl) aA ?_;by_cases h6:a.to > 7
 ·refine aH 31 true (e:=.cmp .gtr (.x fun _=>a.to) (.l 7)) (decide_eq_true h6) ?_;rw[bR (decide_eq_false (fun h=>by omega))];refine ga env (Fo.frm _ _ _ _ 0 rfl) aA ?_;refine fa env (Fo.frm _ _ _ _ 0 rfl) ?_;intro B v F;exact⟨rfl,F.now.1⟩
 refine aH 31 false (e:=.cmp .gtr (.x fun _=>a.to) (.l 7)) (decide_eq_false h6) ?_;refine ga env (Fo.frm _ _ _ _ 0 rfl) aA ?_;by_cases h7:a.n < -1125899906842624
 ·refine aH 36 true (e:=.cmp .lss (.x fun _=>a.n) (.l (-1125899906842624))) (decide_eq_true h7) ?_;rw[bR (decide_eq_false (fun h=>by omega))];refine ga env (Fo.frm _ _ _ _ 0 rfl) aA ?_;refine fa env (Fo.frm _ _ _ _ 0 rfl) ?_;intro B v F;exact⟨rfl,F.now.1⟩
 refine aH 36 false (e:=.cmp .lss (.x fun _=>a.n) (.l (-1125899906842624))) (decide_eq_false h7) ?_;refine ga env (Fo.frm _ _ _ _ 0 rfl) aA ?_;by_cases h8:a.n > 1125899906842624
 ·refine aH 41 true (e:=.cmp .gtr (.x fun _=>a.n) (.l 1125899906842624)) (decide_eq_true h8) ?_;rw[bR (decide_eq_false (fun h=>by omega))];refine ga env (Fo.frm _ _ _ _ 0 rfl) aA ?_;refine fa env (Fo.frm _ _ _ _ 0 rfl) ?_;intro B v F;exact⟨rfl,F.now.1⟩
 refine aH 41 false (e:=.cmp .gtr (.x fun _=>a.n) (.l 1125899906842624)) (decide_eq_false h8) ?_;refine ga env (Fo.frm _ _ _ _ 0 rfl) aA ?_;refine⟨fun q=>?_,fun q=>?_⟩
 ·have h9:(A.tn:Int) > 16:=by simpa [BE.den,cmpB,IE.den] using q
  rw[bR (decide_eq_false (fun h=>by omega))];refine ga env (Fo.frm _ _ _ _ 0 rfl) aA ?_;refine fa env (Fo.frm _ _ _ _ 0 rfl) ?_;intro B v F;exact⟨rfl,F.now.1⟩
 have h9:¬(A.tn:Int) > 16:=by simpa [BE.den,cmpB,IE.den] using q
 clear q;refine ga env (Fo.frm _ _ _ _ 0 rfl) aA ?_;rw[qK (decide_eq_true (by omega))];intro B v F;refine(zR a.com A.com v F.now.2.com).mono ?_;rintro e w2 ⟨rfl,hb⟩;cases hz:decide (a.com=iB) with
 | true =>
  refine⟨.b (.l true),_,rfl,(Fo.frm _ _ _ _ _ rfl).b,F.on hb,?_⟩;clear F hb;refine ga env (Fo.frm _ _ _ _ 1 rfl) aA ?_;refine fa env (Fo.frm _ _ _ _ 1 rfl) ?_;intro B v F;exact⟨rfl,F.now.1⟩
 | false =>
 refine⟨.b (.l false),_,rfl,(Fo.frm _ _ _ _ _ rfl).b,F.on hb,?_⟩;clear F hb;refine ga env (Fo.frm _ _ _ _ 1 rfl) aA ?_;intro B v F;refine(cM a.com A.com v F.now.2.com).mono ?_;rintro e w2 ⟨rfl,hb⟩;refine⟨.b (.x fun _=>cR a.com),_,rfl,(Fo.frm _ _ _ _ _ rfl).b,F.on hb,?_⟩;clear F hb;refine ga env (Fo.frm _ _ _ _ 1 rfl) aA ?_;refine fa env (Fo.frm _ _ _ _ 1 rfl) ?_;intro B v F;exact⟨rfl,F.now.1⟩
theorem aIO (a:cS)(A:dN)(w:World)(h:cL w a A):Calls Tryz.prog 47 #[.agg (eZ a A).toArray] w fun e w'=>e = .returned (.bool (eF a))/\Below w.heap.size w w':=by
 have F0:Fo [] (fun _=>False) w (fun v=>Below w.heap.size w v/\cL v a A) w []:=Fo.start nofun fun _ bv=>⟨bv,h.below bv⟩;have hn:=h.n;clear h;refine enter (fun _=>0) [.g (fK a A)] [] Tryz.func47 rfl rfl F0 54 rfl ?_;refine ga env (Fo.frm _ _ _ _ 0 rfl) aA ?_;by_cases h1:a.k<1
 ·refine aH 6 true (e:=.cmp .lss (.x fun _=>a.k) (.l 1)) (decide_eq_true h1) ?_;rw[bR (decide_eq_false (fun h=>by omega))];refine ga env (Fo.frm _ _ _ _ 0 rfl) aA ?_;refine fa env (Fo.frm _ _ _ _ 0 rfl) ?_;intro B v F;exact⟨rfl,F.now.1⟩
 refine aH 6 false (e:=.cmp .lss (.x fun _=>a.k) (.l 1)) (decide_eq_false h1) ?_;refine ga env (Fo.frm _ _ _ _ 0 rfl) aA ?_;by_cases h2:a.k > 20
 ·refine aH 11 true (e:=.cmp .gtr (.x fun _=>a.k) (.l 20)) (decide_eq_true h2) ?_;rw[bR (decide_eq_false (fun h=>by omega))];refine ga env (Fo.frm _ _ _ _ 0 rfl) aA ?_;refine fa env (Fo.frm _ _ _ _ 0 rfl) ?_;intro B v F;exact⟨rfl,F.now.1⟩
 refine aH 11 false (e:=.cmp .gtr (.x fun _=>a.k) (.l 20)) (decide_eq_false h2) ?_;refine ga env (Fo.frm _ _ _ _ 0 rfl) aA ?_;by_cases h3:a.who<0
 ·refine aH 16 true (e:=.cmp .lss (.x fun _=>a.who) (.l 0)) (decide_eq_true h3) ?_;rw[bR (decide_eq_false (fun h=>by omega))];refine ga env (Fo.frm _ _ _ _ 0 rfl) aA ?_;refine fa env (Fo.frm _ _ _ _ 0 rfl) ?_;intro B v F;exact⟨rfl,F.now.1⟩
 refine aH 16 false (e:=.cmp .lss (.x fun _=>a.who) (.l 0)) (decide_eq_false h3) ?_;refine ga env (Fo.frm _ _ _ _ 0 rfl) aA ?_;by_cases h4:a.who > 8
 ·refine aH 21 true (e:=.cmp .gtr (.x fun _=>a.who) (.l 8)) (decide_eq_true h4) ?_;rw[bR (decide_eq_false (fun h=>by omega))];refine ga env (Fo.frm _ _ _ _ 0 rfl) aA ?_;refine fa env (Fo.frm _ _ _ _ 0 rfl) ?_;intro B v F;exact⟨rfl,F.now.1⟩
 refine aH 21 false (e:=.cmp .gtr (.x fun _=>a.who) (.l 8)) (decide_eq_false h4) ?_;refine ga env (Fo.frm _ _ _ _ 0 rfl) aA ?_;by_cases h5:a.to<0
 ·refine aH 26 true (e:=.cmp .lss (.x fun _=>a.to) (.l 0)) (decide_eq_true h5) ?_;rw[bR (decide_eq_false (fun h=>by omega))];refine ga env (Fo.frm _ _ _ _ 0 rfl) aA ?_;refine fa env (Fo.frm _ _ _ _ 0 rfl) ?_;intro B v F;exact⟨rfl,F.now.1⟩
 refine aH 26 false (e:=.cmp .lss (.x fun _=>a.to) (.l 0)) (decide_eq_false h5) ?_;refine ga env (Fo.frm _ _ _ _ 0 rfl) aA ?_;by_cases h6:a.to > 7
 ·refine aH 31 true (e:=.cmp .gtr (.x fun _=>a.to) (.l 7)) (decide_eq_true h6) ?_;rw[bR (decide_eq_false (fun h=>by omega))];refine ga env (Fo.frm _ _ _ _ 0 rfl) aA ?_;refine fa env (Fo.frm _ _ _ _ 0 rfl) ?_;intro B v F;exact⟨rfl,F.now.1⟩
 refine aH 31 false (e:=.cmp .gtr (.x fun _=>a.to) (.l 7)) (decide_eq_false h6) ?_;refine ga env (Fo.frm _ _ _ _ 0 rfl) aA ?_;by_cases h7:a.n < -1125899906842624
 ·refine aH 36 true (e:=.cmp .lss (.x fun _=>a.n) (.l (-1125899906842624))) (decide_eq_true h7) ?_;rw[bR (decide_eq_false (fun h=>by omega))];refine ga env (Fo.frm _ _ _ _ 0 rfl) aA ?_;refine fa env (Fo.frm _ _ _ _ 0 rfl) ?_;intro B v F;exact⟨rfl,F.now.1⟩
 refine aH 36 false (e:=.cmp .lss (.x fun _=>a.n) (.l (-1125899906842624))) (decide_eq_false h7) ?_;refine ga env (Fo.frm _ _ _ _ 0 rfl) aA ?_;by_cases h8:a.n > 1125899906842624
 ·refine aH 41 true (e:=.cmp .gtr (.x fun _=>a.n) (.l 1125899906842624)) (decide_eq_true h8) ?_;rw[bR (decide_eq_false (fun h=>by omega))];refine ga env (Fo.frm _ _ _ _ 0 rfl) aA ?_;refine fa env (Fo.frm _ _ _ _ 0 rfl) ?_;intro B v F;exact⟨rfl,F.now.1⟩
 refine aH 41 false (e:=.cmp .gtr (.x fun _=>a.n) (.l 1125899906842624)) (decide_eq_false h8) ?_;refine ga env (Fo.frm _ _ _ _ 0 rfl) aA ?_;refine⟨fun q=>?_,fun q=>?_⟩
 ·have h9:(A.tn:Int) > 16:=by simpa [BE.den,cmpB,IE.den] using q
  rw[bR (decide_eq_false (fun h=>by omega))];refine ga env (Fo.frm _ _ _ _ 0 rfl) aA ?_;refine fa env (Fo.frm _ _ _ _ 0 rfl) ?_;intro B v F;exact⟨rfl,F.now.1⟩
 have h9:¬(A.tn:Int) > 16:=by simpa [BE.den,cmpB,IE.den] using q
 clear q;refine ga env (Fo.frm _ _ _ _ 0 rfl) aA ?_;rw[qK (decide_eq_true (by omega))];intro B v F;refine(aAc a.com A.com v F.now.2.com).mono ?_;rintro e w2 ⟨rfl,hb⟩;cases hz:decide (a.com=iB) with
 | true =>
  refine⟨.b (.l true),_,rfl,(Fo.frm _ _ _ _ _ rfl).b,F.on hb,?_⟩;clear F hb;refine ga env (Fo.frm _ _ _ _ 1 rfl) aA ?_;refine fa env (Fo.frm _ _ _ _ 1 rfl) ?_;intro B v F;exact⟨rfl,F.now.1⟩
 | false =>
 refine⟨.b (.l false),_,rfl,(Fo.frm _ _ _ _ _ rfl).b,F.on hb,?_⟩;clear F hb;refine ga env (Fo.frm _ _ _ _ 1 rfl) aA ?_;intro B v F;refine(cY a.com A.com v F.now.2.com).mono ?_;rintro e w2 ⟨rfl,hb⟩;refine⟨.b (.x fun _=>cR a.com),_,rfl,(Fo.frm _ _ _ _ _ rfl).b,F.on hb,?_⟩;clear F hb;refine ga env (Fo.frm _ _ _ _ 1 rfl) aA ?_;refine fa env (Fo.frm _ _ _ _ 1 rfl) ?_;intro B v F;exact⟨rfl,F.now.1⟩

structure vW where
 s:Int
 m:Int
 el:Int
 bt:Int
 ev:Int
 rm:Int
deriving DecidableEq
def aK0 (c:vW):List Value:=[.int .i64 c.s,.int .i64 c.m,.int .i64 c.el,.int .i64 c.bt,.int .i64 c.ev,.int .i64 c.rm]
def aAC (c:vW):List AV:=[.i .i64 (.x fun _=>c.s),.i .i64 (.x fun _=>c.m),.i .i64 (.x fun _=>c.el),.i .i64 (.x fun _=>c.bt),.i .i64 (.x fun _=>c.ev),.i .i64 (.x fun _=>c.rm)]
def rfB (el bt:Int):Bool:=decide (2<=el/\el<=64/\1<=bt/\bt<el)
def svB (el bt ev:Int):Bool:=rfB el bt&&decide (1<=ev/\ev<=48)
def oC (c:vW):Bool:=decide (1<=c.s/\c.s<=7/\1<=c.m/\c.m<=c.s/\0<=c.rm/\c.rm<=1048576)&&svB c.el c.bt c.ev
theorem zO (sv:Value)(m:Nat)(el bt:Int)(w:World)(hr:Reads w .i64 sv (rng m))(h1:1<=m)(h7:m<=7):Calls Tryz.prog 134 #[.agg #[.int .i64 0,sv,.int .i64 el,.int .i64 bt]] w fun e w'=>e = .returned (.bool (rfB el bt))/\Below w.heap.size w w':=by
 obtain⟨a,c,rfl,hc⟩:=hr;have F0:Fo [] (fun _=>False) w (fun v=>Below w.heap.size w v/\Reads v .i64 (.slice a (rng m).length c) (rng m)) w []:=Fo.start nofun fun _ bv=>⟨bv,Reads.below (show Reads w .i64 (.slice a (rng m).length c) (rng m) from⟨a,c,rfl,hc⟩) bv⟩;clear hc;refine enter (fun _=>0) [.g [.i .i64 (.l 0),.sl (fun _=>a) (fun _=>(rng m).length) (fun _=>c),.i .i64 (.x fun _=>el),.i .i64 (.x fun _=>bt)]] [] Tryz.func134 rfl rfl F0 37 rfl ?_;refine ga env (Fo.frm _ _ _ _ 0 rfl) aA ?_;intro B v F;refine(aL2 _ m v F.now.2 h1 h7).mono ?_;rintro e w2 ⟨rfl,hb⟩;refine⟨.b (.l true),_,rfl,(Fo.frm _ _ _ _ _ rfl).b,F.on hb,?_⟩;clear F hb h1 h7;refine ga env (Fo.frm _ _ _ _ 1 rfl) aA ?_;by_cases h1:el ≥ 2
 case neg =>
  refine aH 21 false (e:=.cmp .geq (.x fun _=>el) (.l 2)) (decide_eq_false h1) ?_;rw[rfB,decide_eq_false (fun h=>by omega)];refine ga env (Fo.frm _ _ _ _ 1 rfl) aA ?_;refine fa env (Fo.frm _ _ _ _ 1 rfl) ?_;intro B v F;exact⟨rfl,F.now.1⟩
 refine aH 21 true (e:=.cmp .geq (.x fun _=>el) (.l 2)) (decide_eq_true h1) ?_;refine ga env (Fo.frm _ _ _ _ 1 rfl) aA ?_;by_cases h2:el<=64
 case neg =>
  refine aH 26 false (e:=.cmp .leq (.x fun _=>el) (.l 64)) (decide_eq_false h2) ?_;rw[rfB,decide_eq_false (fun h=>by omega)];refine ga env (Fo.frm _ _ _ _ 1 rfl) aA ?_;refine fa env (Fo.frm _ _ _ _ 1 rfl) ?_;intro B v F;exact⟨rfl,F.now.1⟩
 refine aH 26 true (e:=.cmp .leq (.x fun _=>el) (.l 64)) (decide_eq_true h2) ?_;refine ga env (Fo.frm _ _ _ _ 1 rfl) aA ?_;by_cases h3:bt ≥ 1
 case neg =>
  refine aH 31 false (e:=.cmp .geq (.x fun _=>bt) (.l 1)) (decide_eq_false h3) ?_;rw[rfB,decide_eq_false (fun h=>by omega)];refine ga env (Fo.frm _ _ _ _ 1 rfl) aA ?_;refine fa env (Fo.frm _ _ _ _ 1 rfl) ?_;intro B v F;exact⟨rfl,F.now.1⟩
 refine aH 31 true (e:=.cmp .geq (.x fun _=>bt) (.l 1)) (decide_eq_true h3) ?_;refine ga env (Fo.frm _ _ _ _ 1 rfl) aA ?_;refine fa env (Fo.frm _ _ _ _ 1 rfl) ?_;intro B v F;refine⟨?_,F.now.1⟩;rw[rfB,decide_eq_decide.2 (show (2<=el/\el<=64/\1<=bt/\bt<el) ↔ bt<el from⟨fun h=>h.2.2.2,fun h=>⟨h1,h2,h3,h⟩⟩)];rfl
theorem uZ (sv:Value)(m:Nat)(el bt ev:Int)(w:World)(hr:Reads w .i64 sv (rng m))(h1:1<=m)(h7:m<=7):Calls Tryz.prog 90 #[.agg #[.int .i64 0,sv,.int .i64 el,.int .i64 bt,.int .i64 ev]] w fun e w'=>e = .returned (.bool (svB el bt ev))/\Below w.heap.size w w':=by
 obtain⟨a,c,rfl,hc⟩:=hr;have F0:Fo [] (fun _=>False) w (fun v=>Below w.heap.size w v/\Reads v .i64 (.slice a (rng m).length c) (rng m)) w []:=Fo.start nofun fun _ bv=>⟨bv,Reads.below (show Reads w .i64 (.slice a (rng m).length c) (rng m) from⟨a,c,rfl,hc⟩) bv⟩;clear hc;refine enter (fun _=>0) [.g [.i .i64 (.l 0),.sl (fun _=>a) (fun _=>(rng m).length) (fun _=>c),.i .i64 (.x fun _=>el),.i .i64 (.x fun _=>bt),.i .i64 (.x fun _=>ev)]] [] Tryz.func90 rfl rfl F0 15 rfl ?_;refine ga env (Fo.frm _ _ _ _ 0 rfl) aA ?_;intro B v F;refine(zO _ m el bt v F.now.2 h1 h7).mono ?_;rintro e w2 ⟨rfl,hb⟩;unfold svB;cases rfB el bt with
 | false =>
  refine⟨.b (.l false),_,rfl,(Fo.frm _ _ _ _ _ rfl).b,F.on hb,?_⟩;clear F hb;refine ga env (Fo.frm _ _ _ _ 1 rfl) aA ?_;refine fa env (Fo.frm _ _ _ _ 1 rfl) ?_;intro B v F;exact⟨rfl,F.now.1⟩
 | true =>
 refine⟨.b (.l true),_,rfl,(Fo.frm _ _ _ _ _ rfl).b,F.on hb,?_⟩;clear F hb h1 h7;refine ga env (Fo.frm _ _ _ _ 1 rfl) aA ?_;by_cases h1:ev ≥ 1
 case neg =>
  refine aH 11 false (e:=.cmp .geq (.x fun _=>ev) (.l 1)) (decide_eq_false h1) ?_;rw[decide_eq_false (fun h=>by omega)];refine ga env (Fo.frm _ _ _ _ 1 rfl) aA ?_;refine fa env (Fo.frm _ _ _ _ 1 rfl) ?_;intro B v F;exact⟨rfl,F.now.1⟩
 refine aH 11 true (e:=.cmp .geq (.x fun _=>ev) (.l 1)) (decide_eq_true h1) ?_;refine ga env (Fo.frm _ _ _ _ 1 rfl) aA ?_;refine fa env (Fo.frm _ _ _ _ 1 rfl) ?_;intro B v F;refine⟨?_,F.now.1⟩;rw[decide_eq_decide.2 (show (1<=ev/\ev<=48) ↔ ev<=48 from⟨fun h=>h.2,fun h=>⟨h1,h⟩⟩)];rfl
theorem aIw (c:vW)(w:World):Calls Tryz.prog 42 #[.agg (aK0 c).toArray] w fun e w'=>e = .returned (.bool (oC c))/\Below w.heap.size w w':=by
 have F0:Fo [] (fun _=>False) w (fun v=>Below w.heap.size w v) w []:=Fo.start nofun fun _ bv=>bv;obtain⟨s,m,el,bt,ev,rm⟩:=c;unfold oC;simp only;refine enter (fun _=>0) [.g (aAC ⟨s,m,el,bt,ev,rm⟩)] [] Tryz.func42 rfl rfl F0 37 rfl ?_;refine ga env (Fo.frm _ _ _ _ 0 rfl) aA ?_;by_cases h1:s ≥ 1
 case neg =>
  refine aH 6 false (e:=.cmp .geq (.x fun _=>s) (.l 1)) (decide_eq_false h1) ?_;rw[decide_eq_false (fun h=>by omega)];refine ga env (Fo.frm _ _ _ _ 0 rfl) aA ?_;refine fa env (Fo.frm _ _ _ _ 0 rfl) ?_;intro B v F;exact⟨rfl,F.bel⟩
 refine aH 6 true (e:=.cmp .geq (.x fun _=>s) (.l 1)) (decide_eq_true h1) ?_;refine ga env (Fo.frm _ _ _ _ 0 rfl) aA ?_;by_cases h2:s<=7
 case neg =>
  refine aH 11 false (e:=.cmp .leq (.x fun _=>s) (.l 7)) (decide_eq_false h2) ?_;rw[decide_eq_false (fun h=>by omega)];refine ga env (Fo.frm _ _ _ _ 0 rfl) aA ?_;refine fa env (Fo.frm _ _ _ _ 0 rfl) ?_;intro B v F;exact⟨rfl,F.bel⟩
 refine aH 11 true (e:=.cmp .leq (.x fun _=>s) (.l 7)) (decide_eq_true h2) ?_;refine ga env (Fo.frm _ _ _ _ 0 rfl) aA ?_;by_cases h3:m ≥ 1
 case neg =>
  refine aH 16 false (e:=.cmp .geq (.x fun _=>m) (.l 1)) (decide_eq_false h3) ?_;rw[decide_eq_false (fun h=>by omega)];refine ga env (Fo.frm _ _ _ _ 0 rfl) aA ?_;refine fa env (Fo.frm _ _ _ _ 0 rfl) ?_;intro B v F;exact⟨rfl,F.bel⟩
 refine aH 16 true (e:=.cmp .geq (.x fun _=>m) (.l 1)) (decide_eq_true h3) ?_;refine ga env (Fo.frm _ _ _ _ 0 rfl) aA ?_;by_cases h4:m<=s
 case neg =>
  refine aH 23 false (e:=.cmp .leq (.x fun _=>m) (.x fun _=>s)) (decide_eq_false h4) ?_;rw[decide_eq_false (fun h=>by omega)];refine ga env (Fo.frm _ _ _ _ 0 rfl) aA ?_;refine fa env (Fo.frm _ _ _ _ 0 rfl) ?_;intro B v F;exact⟨rfl,F.bel⟩
 refine aH 23 true (e:=.cmp .leq (.x fun _=>m) (.x fun _=>s)) (decide_eq_true h4) ?_;refine ga env (Fo.frm _ _ _ _ 0 rfl) aA ?_;by_cases h5:rm ≥ 0
 case neg =>
  refine aH 28 false (e:=.cmp .geq (.x fun _=>rm) (.l 0)) (decide_eq_false h5) ?_;rw[decide_eq_false (fun h=>by omega)];refine ga env (Fo.frm _ _ _ _ 0 rfl) aA ?_;refine fa env (Fo.frm _ _ _ _ 0 rfl) ?_;intro B v F;exact⟨rfl,F.bel⟩
 refine aH 28 true (e:=.cmp .geq (.x fun _=>rm) (.l 0)) (decide_eq_true h5) ?_;refine ga env (Fo.frm _ _ _ _ 0 rfl) aA ?_;by_cases h6:rm<=1048576
 case neg =>
  refine aH 33 false (e:=.cmp .leq (.x fun _=>rm) (.l 1048576)) (decide_eq_false h6) ?_;rw[decide_eq_false (fun h=>by omega)];refine ga env (Fo.frm _ _ _ _ 0 rfl) aA ?_;refine fa env (Fo.frm _ _ _ _ 0 rfl) ?_;intro B v F;exact⟨rfl,F.bel⟩
 refine aH 33 true (e:=.cmp .leq (.x fun _=>rm) (.l 1048576)) (decide_eq_true h6) ?_;refine ga env (Fo.frm _ _ _ _ 0 rfl) aA ?_;rw[decide_eq_true (⟨h1,h2,h3,h4,h5,h6⟩:1<=s/\s<=7/\1<=m/\m<=s/\0<=rm/\rm<=1048576),Bool.true_and];obtain⟨k,rfl⟩:=Int.eq_ofNat_of_zero_le (show 0<=m by omega);intro B v F;refine(aJt s el bt ev rm k v (by omega) (by omega)).mono ?_;rintro e w2 ⟨sv,rfl,hs,hb⟩;obtain⟨a,cc,rfl,hc⟩:=hs;refine⟨.g [.i .i64 (.l 0),.sl (fun _=>a) (fun _=>(rng k).length) (fun _=>cc),.i .i64 (.x fun _=>el),.i .i64 (.x fun _=>bt),.i .i64 (.x fun _=>ev)],_,rfl,(Fo.frm _ _ _ _ _ rfl).b,F.step hb (Z:=fun v=>Reads v .i64 (.slice a (rng k).length cc) (rng k)) (fun u bu=>Reads.below ⟨a,cc,rfl,hc⟩ bu),?_⟩;clear F hb hc;refine ga env (Fo.frm _ _ _ _ 1 rfl) aA ?_;intro B v F;refine(uZ _ k el bt ev v F.now.1 (by omega) (by omega)).mono ?_;rintro e w2 ⟨rfl,hb⟩;refine⟨.b (.x fun _=>svB el bt ev),_,rfl,(Fo.frm _ _ _ _ _ rfl).b,F.on hb,?_⟩;clear F hb;refine ga env (Fo.frm _ _ _ _ 1 rfl) aA ?_;refine fa env (Fo.frm _ _ _ _ 1 rfl) ?_;intro B v F;exact⟨rfl,F.now.2⟩
theorem zW (sv:Value)(m:Nat)(el bt:Int)(w:World)(hr:Reads w .i64 sv (rng m))(h1:1<=m)(h7:m<=7):Calls Tryz.prog 138 #[.agg #[.int .i64 0,sv,.int .i64 el,.int .i64 bt]] w fun e w'=>e = .returned (.bool (rfB el bt))/\Below w.heap.size w w':=by
 obtain⟨a,c,rfl,hc⟩:=hr;have F0:Fo [] (fun _=>False) w (fun v=>Below w.heap.size w v/\Reads v .i64 (.slice a (rng m).length c) (rng m)) w []:=Fo.start nofun fun _ bv=>⟨bv,Reads.below (show Reads w .i64 (.slice a (rng m).length c) (rng m) from⟨a,c,rfl,hc⟩) bv⟩;clear hc;refine enter (fun _=>0) [.g [.i .i64 (.l 0),.sl (fun _=>a) (fun _=>(rng m).length) (fun _=>c),.i .i64 (.x fun _=>el),.i .i64 (.x fun _=>bt)]] [] Tryz.func138 rfl rfl F0 37 rfl ?_;refine ga env (Fo.frm _ _ _ _ 0 rfl) aA ?_;intro B v F;refine(aI0 _ m v F.now.2 h1 h7).mono ?_;rintro e w2 ⟨rfl,hb⟩;refine⟨.b (.l true),_,rfl,(Fo.frm _ _ _ _ _ rfl).b,F.on hb,?_⟩;clear F hb h1 h7;refine ga env (Fo.frm _ _ _ _ 1 rfl) aA ?_;by_cases h1:el ≥ 2
 case neg =>
  refine aH 21 false (e:=.cmp .geq (.x fun _=>el) (.l 2)) (decide_eq_false h1) ?_;rw[rfB,decide_eq_false (fun h=>by omega)];refine ga env (Fo.frm _ _ _ _ 1 rfl) aA ?_;refine fa env (Fo.frm _ _ _ _ 1 rfl) ?_;intro B v F;exact⟨rfl,F.now.1⟩
 refine aH 21 true (e:=.cmp .geq (.x fun _=>el) (.l 2)) (decide_eq_true h1) ?_;refine ga env (Fo.frm _ _ _ _ 1 rfl) aA ?_;by_cases h2:el<=64
 case neg =>
  refine aH 26 false (e:=.cmp .leq (.x fun _=>el) (.l 64)) (decide_eq_false h2) ?_;rw[rfB,decide_eq_false (fun h=>by omega)];refine ga env (Fo.frm _ _ _ _ 1 rfl) aA ?_;refine fa env (Fo.frm _ _ _ _ 1 rfl) ?_;intro B v F;exact⟨rfl,F.now.1⟩
 refine aH 26 true (e:=.cmp .leq (.x fun _=>el) (.l 64)) (decide_eq_true h2) ?_;refine ga env (Fo.frm _ _ _ _ 1 rfl) aA ?_;by_cases h3:bt ≥ 1
 case neg =>
  refine aH 31 false (e:=.cmp .geq (.x fun _=>bt) (.l 1)) (decide_eq_false h3) ?_;rw[rfB,decide_eq_false (fun h=>by omega)];refine ga env (Fo.frm _ _ _ _ 1 rfl) aA ?_;refine fa env (Fo.frm _ _ _ _ 1 rfl) ?_;intro B v F;exact⟨rfl,F.now.1⟩
 refine aH 31 true (e:=.cmp .geq (.x fun _=>bt) (.l 1)) (decide_eq_true h3) ?_;refine ga env (Fo.frm _ _ _ _ 1 rfl) aA ?_;refine fa env (Fo.frm _ _ _ _ 1 rfl) ?_;intro B v F;refine⟨?_,F.now.1⟩;rw[rfB,decide_eq_decide.2 (show (2<=el/\el<=64/\1<=bt/\bt<el) ↔ bt<el from⟨fun h=>h.2.2.2,fun h=>⟨h1,h2,h3,h⟩⟩)];rfl
theorem vK (sv:Value)(m:Nat)(el bt ev:Int)(w:World)(hr:Reads w .i64 sv (rng m))(h1:1<=m)(h7:m<=7):Calls Tryz.prog 94 #[.agg #[.int .i64 0,sv,.int .i64 el,.int .i64 bt,.int .i64 ev]] w fun e w'=>e = .returned (.bool (svB el bt ev))/\Below w.heap.size w w':=by
 obtain⟨a,c,rfl,hc⟩:=hr;have F0:Fo [] (fun _=>False) w (fun v=>Below w.heap.size w v/\Reads v .i64 (.slice a (rng m).length c) (rng m)) w []:=Fo.start nofun fun _ bv=>⟨bv,Reads.below (show Reads w .i64 (.slice a (rng m).length c) (rng m) from⟨a,c,rfl,hc⟩) bv⟩;clear hc;refine enter (fun _=>0) [.g [.i .i64 (.l 0),.sl (fun _=>a) (fun _=>(rng m).length) (fun _=>c),.i .i64 (.x fun _=>el),.i .i64 (.x fun _=>bt),.i .i64 (.x fun _=>ev)]] [] Tryz.func94 rfl rfl F0 15 rfl ?_;refine ga env (Fo.frm _ _ _ _ 0 rfl) aA ?_;intro B v F;refine(zW _ m el bt v F.now.2 h1 h7).mono ?_;rintro e w2 ⟨rfl,hb⟩;unfold svB;cases rfB el bt with
 | false =>
  refine⟨.b (.l false),_,rfl,(Fo.frm _ _ _ _ _ rfl).b,F.on hb,?_⟩;clear F hb;refine ga env (Fo.frm _ _ _ _ 1 rfl) aA ?_;refine fa env (Fo.frm _ _ _ _ 1 rfl) ?_;intro B v F;exact⟨rfl,F.now.1⟩
 | true =>
 refine⟨.b (.l true),_,rfl,(Fo.frm _ _ _ _ _ rfl).b,F.on hb,?_⟩;clear F hb h1 h7;refine ga env (Fo.frm _ _ _ _ 1 rfl) aA ?_;by_cases h1:ev ≥ 1
 case neg =>
  refine aH 11 false (e:=.cmp .geq (.x fun _=>ev) (.l 1)) (decide_eq_false h1) ?_;rw[decide_eq_false (fun h=>by omega)];refine ga env (Fo.frm _ _ _ _ 1 rfl) aA ?_;refine fa env (Fo.frm _ _ _ _ 1 rfl) ?_;intro B v F;exact⟨rfl,F.now.1⟩
 refine aH 11 true (e:=.cmp .geq (.x fun _=>ev) (.l 1)) (decide_eq_true h1) ?_;refine ga env (Fo.frm _ _ _ _ 1 rfl) aA ?_;refine fa env (Fo.frm _ _ _ _ 1 rfl) ?_;intro B v F;refine⟨?_,F.now.1⟩;rw[decide_eq_decide.2 (show (1<=ev/\ev<=48) ↔ ev<=48 from⟨fun h=>h.2,fun h=>⟨h1,h⟩⟩)];rfl
theorem aIP (c:vW)(w:World):Calls Tryz.prog 46 #[.agg (aK0 c).toArray] w fun e w'=>e = .returned (.bool (oC c))/\Below w.heap.size w w':=by
 have F0:Fo [] (fun _=>False) w (fun v=>Below w.heap.size w v) w []:=Fo.start nofun fun _ bv=>bv;obtain⟨s,m,el,bt,ev,rm⟩:=c;unfold oC;simp only;refine enter (fun _=>0) [.g (aAC ⟨s,m,el,bt,ev,rm⟩)] [] Tryz.func46 rfl rfl F0 37 rfl ?_;refine ga env (Fo.frm _ _ _ _ 0 rfl) aA ?_;by_cases h1:s ≥ 1
 case neg =>
  refine aH 6 false (e:=.cmp .geq (.x fun _=>s) (.l 1)) (decide_eq_false h1) ?_;rw[decide_eq_false (fun h=>by omega)];refine ga env (Fo.frm _ _ _ _ 0 rfl) aA ?_;refine fa env (Fo.frm _ _ _ _ 0 rfl) ?_;intro B v F;exact⟨rfl,F.bel⟩
 refine aH 6 true (e:=.cmp .geq (.x fun _=>s) (.l 1)) (decide_eq_true h1) ?_;refine ga env (Fo.frm _ _ _ _ 0 rfl) aA ?_;by_cases h2:s<=7
 case neg =>
  refine aH 11 false (e:=.cmp .leq (.x fun _=>s) (.l 7)) (decide_eq_false h2) ?_;rw[decide_eq_false (fun h=>by omega)];refine ga env (Fo.frm _ _ _ _ 0 rfl) aA ?_;refine fa env (Fo.frm _ _ _ _ 0 rfl) ?_;intro B v F;exact⟨rfl,F.bel⟩
 refine aH 11 true (e:=.cmp .leq (.x fun _=>s) (.l 7)) (decide_eq_true h2) ?_;refine ga env (Fo.frm _ _ _ _ 0 rfl) aA ?_;by_cases h3:m ≥ 1
 case neg =>
  refine aH 16 false (e:=.cmp .geq (.x fun _=>m) (.l 1)) (decide_eq_false h3) ?_;rw[decide_eq_false (fun h=>by omega)];refine ga env (Fo.frm _ _ _ _ 0 rfl) aA ?_;refine fa env (Fo.frm _ _ _ _ 0 rfl) ?_;intro B v F;exact⟨rfl,F.bel⟩
 refine aH 16 true (e:=.cmp .geq (.x fun _=>m) (.l 1)) (decide_eq_true h3) ?_;refine ga env (Fo.frm _ _ _ _ 0 rfl) aA ?_;by_cases h4:m<=s
 case neg =>
  refine aH 23 false (e:=.cmp .leq (.x fun _=>m) (.x fun _=>s)) (decide_eq_false h4) ?_;rw[decide_eq_false (fun h=>by omega)];refine ga env (Fo.frm _ _ _ _ 0 rfl) aA ?_;refine fa env (Fo.frm _ _ _ _ 0 rfl) ?_;intro B v F;exact⟨rfl,F.bel⟩
 refine aH 23 true (e:=.cmp .leq (.x fun _=>m) (.x fun _=>s)) (decide_eq_true h4) ?_;refine ga env (Fo.frm _ _ _ _ 0 rfl) aA ?_;by_cases h5:rm ≥ 0
 case neg =>
  refine aH 28 false (e:=.cmp .geq (.x fun _=>rm) (.l 0)) (decide_eq_false h5) ?_;rw[decide_eq_false (fun h=>by omega)];refine ga env (Fo.frm _ _ _ _ 0 rfl) aA ?_;refine fa env (Fo.frm _ _ _ _ 0 rfl) ?_;intro B v F;exact⟨rfl,F.bel⟩
 refine aH 28 true (e:=.cmp .geq (.x fun _=>rm) (.l 0)) (decide_eq_true h5) ?_;refine ga env (Fo.frm _ _ _ _ 0 rfl) aA ?_;by_cases h6:rm<=1048576
 case neg =>
  refine aH 33 false (e:=.cmp .leq (.x fun _=>rm) (.l 1048576)) (decide_eq_false h6) ?_;rw[decide_eq_false (fun h=>by omega)];refine ga env (Fo.frm _ _ _ _ 0 rfl) aA ?_;refine fa env (Fo.frm _ _ _ _ 0 rfl) ?_;intro B v F;exact⟨rfl,F.bel⟩
 refine aH 33 true (e:=.cmp .leq (.x fun _=>rm) (.l 1048576)) (decide_eq_true h6) ?_;refine ga env (Fo.frm _ _ _ _ 0 rfl) aA ?_;rw[decide_eq_true (⟨h1,h2,h3,h4,h5,h6⟩:1<=s/\s<=7/\1<=m/\m<=s/\0<=rm/\rm<=1048576),Bool.true_and];obtain⟨k,rfl⟩:=Int.eq_ofNat_of_zero_le (show 0<=m by omega);intro B v F;refine(aKt s el bt ev rm k v (by omega) (by omega)).mono ?_;rintro e w2 ⟨sv,rfl,hs,hb⟩;obtain⟨a,cc,rfl,hc⟩:=hs;refine⟨.g [.i .i64 (.l 0),.sl (fun _=>a) (fun _=>(rng k).length) (fun _=>cc),.i .i64 (.x fun _=>el),.i .i64 (.x fun _=>bt),.i .i64 (.x fun _=>ev)],_,rfl,(Fo.frm _ _ _ _ _ rfl).b,F.step hb (Z:=fun v=>Reads v .i64 (.slice a (rng k).length cc) (rng k)) (fun u bu=>Reads.below ⟨a,cc,rfl,hc⟩ bu),?_⟩;clear F hb hc;refine ga env (Fo.frm _ _ _ _ 1 rfl) aA ?_;intro B v F;refine(vK _ k el bt ev v F.now.1 (by omega) (by omega)).mono ?_;rintro e w2 ⟨rfl,hb⟩;refine⟨.b (.x fun _=>svB el bt ev),_,rfl,(Fo.frm _ _ _ _ _ rfl).b,F.on hb,?_⟩;clear F hb;refine ga env (Fo.frm _ _ _ _ 1 rfl) aA ?_;refine fa env (Fo.frm _ _ _ _ 1 rfl) ?_;intro B v F;exact⟨rfl,F.now.2⟩

structure bI (w:World)(L:List (cS × dN))(a:Option Addr)(n c:Nat):Prop where
 row:aU w 19 (.slice a n c) (L.map fun p=>eZ p.1 p.2)
 ln:L.length=n
 sm:n<=2147483648
 each:∀p ∈ L,cL w p.1 p.2
theorem bI.below {w w':World}{L:List (cS × dN)}{a:Option Addr}{n c:Nat}(h:bI w L a n c)(hb:Below w.heap.size w w'):bI w' L a n c:=⟨h.row.below hb,h.ln,h.sm,fun p hp=>(h.each p hp).below hb⟩
theorem bI.nil (w:World):bI w [] none 0 0 where
 row:=by
  show aU w 19 (.slice none 0 0) [];exact aU.nil w 19
 ln:=rfl
 sm:=by omega
 each:=fun p hp=>by cases hp
theorem bI.base {w:World}{L:List (cS × dN)}{a:Option Addr}{n c j:Nat}(h:bI w L a n c)(hj:j<n):∃b o,a=some ⟨b,o,none⟩:=by
 obtain⟨b,o,e,_⟩:=h.row.at (j:=j) (by rw[List.length_map,h.ln];exact hj);exact⟨b,o,e⟩
theorem bI.range {w:World}{L:List (cS × dN)}{b o n c j:Nat}(h:bI w L (some ⟨b,o,none⟩) n c)(hj:j<L.length):w.rangeAt b (o+j*19) (eZ L[j].1 L[j].2):=by
 have:=h.row.range (j:=j) (by rw[List.length_map];exact hj)
 rwa [List.getElem_map]at this
structure kN where
 cfg:vW
 acts:List cS
 rounds:Int
 by':Int
deriving DecidableEq
def tE (s:kN)(a:Option Addr)(n c:Nat):List Value:=aK0 s.cfg ++ [.slice a n c,.int .i64 s.rounds,.int .i64 s.by']
def jX (s:kN)(a:Option Addr)(n c:Nat):List AV:=aAC s.cfg ++ [.sl (fun _=>a) (fun _=>n) (fun _=>c),.i .i64 (.x fun _=>s.rounds),.i .i64 (.x fun _=>s.by')]
structure cZ (w:World)(s:kN)(L:List (cS × dN))(a:Option Addr)(n c:Nat):Prop where
 acts:bI w L a n c
 eq:s.acts=L.map (·.1)
theorem cZ.below {w w':World}{s:kN}{L:List (cS × dN)}{a:Option Addr}{n c:Nat}(h:cZ w s L a n c)(hb:Below w.heap.size w w'):cZ w' s L a n c:=⟨h.acts.below hb,h.eq⟩
def jY (s:kN):Bool:=oC s.cfg&&(decide (0<=s.rounds/\s.rounds<=200/\0<=s.by'/\s.by'<=1125899906842624/\s.acts.length<=4096)&&s.acts.all eF)
theorem tK {α:Type}{l:List α}{p:α->Bool}{j:Nat}(hj:j<l.length)(h:(l.take j).all p=true)(k:p l[j]=true):(l.take (j+1)).all p=true:=by
 rw[List.take_succ_eq_append_getElem hj,List.all_append,h];simp[k]
theorem aAz {α:Type}{l:List α}{p:α->Bool}{j:Nat}(hj:j<l.length)(k:p l[j]=false):l.all p=false:=by
 rw[Bool.eq_false_iff];intro h;rw[List.all_eq_true]at h;rw[h _ (List.getElem_mem hj)]at k;cases k
theorem zP (a:cS)(A:dN)(w:World)(h:cL w a A):Calls Tryz.prog 44 #[.agg (eZ a A).toArray] w fun e w'=>e = .returned (.bool (!eF a))/\Below w.heap.size w w':=by
 have F0:Fe 0 (fun v=>Below w.heap.size w v/\cL v a A) w []:=Fe.start fun _ bv=>⟨bv,h.below bv⟩;clear h;refine enter (fun _=>0) [.g (fK a A)] [] Tryz.func44 rfl rfl F0 5 rfl ?_;refine ga env (Fe.frm 0 _) aA ?_;intro B v F;refine(aIv a A v F.now.2).mono ?_;rintro e w2 ⟨rfl,hb⟩;refine⟨.b (.x fun _=>eF a),_,rfl,(Fe.frm 1 _).b,F.on hb,?_⟩;clear F hb;refine ga env (Fe.frm 1 _) aA ?_;refine fa env (Fe.frm 1 _) ?_;intro B v F;exact⟨rfl,F.now.1⟩
def sxL (j:Nat):List (Nat × AV):=[(1,.p 0 0),(3,.i .i64 (.x fun _=>(j:Int)))]
def ixL (a:Option Addr)(n c j:Nat):List (Nat × AV):=[(0,.sl (fun _=>a) (fun _=>n) (fun _=>c)),(1,.f (.func 44) [] []),(7,.i .i64 (.x fun _=>(n:Int))),(8,.i .i64 (.x fun _=>(j:Int)))]
theorem aIy (L:List (cS × dN))(a:Option Addr)(n c:Nat)(w:World)(h:bI w L a n c):Calls Tryz.prog 92 #[.slice a n c,.func (.func 44) #[] #[]] w fun e w'=>∃r:Int,e = .returned (.int .i64 r)/\decide (r ≥ 0) = !(L.all fun p=>eF p.1)/\Below w.heap.size w w':=by
 have F0:Fe 0 (fun v=>Below w.heap.size w v/\bI v L a n c) w []:=Fe.start fun _ bv=>⟨bv,h.below bv⟩;refine enter (fun _=>0) [.sl (fun _=>a) (fun _=>n) (fun _=>c),.f (.func 44) [] []] [] Tryz.func92 rfl rfl F0 17 rfl ?_;refine ga env (Fe.frm 0 _) aA ?_;have hn:=h.ln;have hsm:=h.sm;refine nP (Fe 0 (fun v=>Below w.heap.size w v/\bI v L a n c)) (ixL a n c) 19 n (fun j=>(L.take j).all (fun p=>eF p.1)=true) rfl (fun B=>⟨rfl,rfl,rfl,rfl,trivial⟩) (fun _ _ h=>h) ?_;intro i J hJ;refine ga env (Fe.frm 0 _) aA ?_;refine⟨fun q=>?_,fun q=>?_⟩
 ·have hlt:i.j<n:=by simpa [BE.den,cmpB,IE.den] using q
  clear q;have hlL:i.j<L.length:=hn ▸ hlt;obtain⟨b,o,rfl⟩:=h.base hlt;have hrg:=fun v (hv:bI v L (some ⟨b,o,none⟩) n c)=>hv.range hlL;have hpm:=List.getElem_mem hlL;generalize hpe:L[i.j]=p at hrg hpm ⊢;refine ga env (Fe.frm 0 _) aA ?_;refine bH (.pa fun _=>⟨b,o+i.j*19,none⟩) (fun B v F=>dI (e:=76) (n:=19) rfl Tryz.underlying26 (by kernel_rfl) (by rw[St.aC];rfl) (by rw[St.aC];rfl) hlt) ?_;refine ga env (Fe.frm 0 _) aA ?_;refine bH (.g (fK p.1 p.2)) (fun B v F=>eL (cs:=eZ p.1 p.2) (b:=b) (off:=o+i.j*19) rfl (by rw[St.aC];rfl) (hrg _ F.now.2) Tryz.underlying76 rfl (by kernel_rfl)) ?_;refine ga env (Fe.frm 0 _) aA ?_;intro B v F;refine(zP p.1 p.2 v (F.now.2.each _ hpm)).mono ?_;rintro e w2 ⟨rfl,hb⟩;cases hok:eF p.1 with
  | false =>
   refine⟨.b (.l true),_,rfl,(Fe.frm 0 _).b,F.on hb,?_⟩;clear F hb;refine ga env (Fe.frm 0 _) aA ?_;refine fa env (Fe.frm 0 _) ?_;intro B v F;refine⟨i.j,rfl,?_,F.now.1⟩;rw[aAz (p:=fun p:cS × dN=>eF p.1) hlL (hpe ▸ hok)];exact decide_eq_true (Int.natCast_nonneg _)
  | true =>
   refine⟨.b (.l false),_,rfl,(Fe.frm 0 _).b,F.on hb,?_⟩;clear F hb;refine ga env (Fe.frm 0 _) aA ?_;refine sH hJ hlt (tK hlL i.hp (hpe ▸ hok)) (fun B=>⟨rfl,rfl,rfl,?_,trivial⟩) (fun _ _ h=>h);simp only[AV.den,IE.den,getT];rw[wrI hlt (by omega)]
 ·have hje:i.j=n:=by
   have:¬i.j<n:=by simpa [BE.den,cmpB,IE.den] using q
   have:=i.hj;omega
  have hall:=i.hp;rw[hje,<- hn,List.take_length]at hall;clear q;refine ga env (Fe.frm 0 _) aA ?_;refine fa env (Fe.frm 0 _) ?_;intro B v F;exact⟨-1,rfl,by rw[hall];rfl,F.now.1⟩
theorem qD (L:List (cS × dN))(a:Option Addr)(n c:Nat)(w:World)(h:bI w L a n c):Calls Tryz.prog 43 #[.slice a n c,.func (.func 44) #[] #[]] w fun e w'=>e = .returned (.bool (!(L.all fun p=>eF p.1)))/\Below w.heap.size w w':=by
 have F0:Fe 0 (fun v=>Below w.heap.size w v/\bI v L a n c) w []:=Fe.start fun _ bv=>⟨bv,h.below bv⟩;clear h;refine enter (fun _=>0) [.sl (fun _=>a) (fun _=>n) (fun _=>c),.f (.func 44) [] []] [] Tryz.func43 rfl rfl F0 7 rfl ?_;refine ga env (Fe.frm 0 _) aA ?_;intro B v F;refine(aIy L a n c v F.now.2).mono ?_;rintro e w2 ⟨r,rfl,hr,hb⟩;refine⟨.i .i64 (.x fun _=>r),_,rfl,(Fe.frm 0 _).b,F.on hb,?_⟩;clear F hb;refine ga env (Fe.frm 0 _) aA ?_;refine fa env (Fe.frm 0 _) ?_;intro B v F;rw[<- hr];exact⟨rfl,F.now.1⟩
theorem uY (s:kN)(L:List (cS × dN))(a:Option Addr)(n c:Nat)(w:World)(h:cZ w s L a n c):Calls Tryz.prog 14 #[.agg (tE s a n c).toArray] w fun e w'=>e = .returned (.bool (jY s))/\Below w.heap.size w w':=by
 have F0:Fe 0 (fun v=>Below w.heap.size w v/\bI v L a n c) w []:=Fe.start fun _ bv=>⟨bv,h.acts.below bv⟩;have hn:=h.acts.ln;have hsm:=h.acts.sm;have he:=h.eq;obtain⟨cfg,acts,rounds,by1⟩:=s;simp only at he;subst he;clear h;refine enter (fun _=>0) [.g (jX ⟨cfg,L.map (·.1),rounds,by1⟩ a n c)] [] Tryz.func14 rfl rfl F0 36 rfl ?_
 refine ga env (Fe.frm 0 _) aA ?_;intro B v F;refine(aIw cfg v).mono ?_;rintro e w2 ⟨rfl,hb⟩;unfold jY;simp only;cases oC cfg with
 | false =>
  refine⟨.b (.l false),_,rfl,(Fe.frm 1 _).b,F.on hb,?_⟩;clear F hb;refine ga env (Fe.frm 1 _) aA ?_;refine fa env (Fe.frm 1 _) ?_;intro B v F;exact⟨rfl,F.now.1⟩
 | true =>
 refine⟨.b (.l true),_,rfl,(Fe.frm 1 _).b,F.on hb,?_⟩;clear F hb;have hl:(L.map (·.1)).length=n:=by rw[List.length_map];exact hn
 refine ga env (Fe.frm 1 _) aA ?_;by_cases h1:rounds<0
 ·rw[decide_eq_false (fun h=>by omega)];refine aH 12 true (e:=.cmp .lss (.x fun _=>rounds) (.l 0)) (decide_eq_true h1) ?_;refine ga env (Fe.frm 1 _) aA ?_;refine fa env (Fe.frm 1 _) ?_;intro B v F;exact⟨rfl,F.now.1⟩
 refine aH 12 false (e:=.cmp .lss (.x fun _=>rounds) (.l 0)) (decide_eq_false h1) ?_;refine ga env (Fe.frm 1 _) aA ?_;by_cases h2:rounds > 200
 ·rw[decide_eq_false (fun h=>by omega)];refine aH 17 true (e:=.cmp .gtr (.x fun _=>rounds) (.l 200)) (decide_eq_true h2) ?_;refine ga env (Fe.frm 1 _) aA ?_;refine fa env (Fe.frm 1 _) ?_;intro B v F;exact⟨rfl,F.now.1⟩
 refine aH 17 false (e:=.cmp .gtr (.x fun _=>rounds) (.l 200)) (decide_eq_false h2) ?_;refine ga env (Fe.frm 1 _) aA ?_;by_cases h3:by1<0
 ·rw[decide_eq_false (fun h=>by omega)];refine aH 22 true (e:=.cmp .lss (.x fun _=>by1) (.l 0)) (decide_eq_true h3) ?_;refine ga env (Fe.frm 1 _) aA ?_;refine fa env (Fe.frm 1 _) ?_;intro B v F;exact⟨rfl,F.now.1⟩
 refine aH 22 false (e:=.cmp .lss (.x fun _=>by1) (.l 0)) (decide_eq_false h3) ?_;refine ga env (Fe.frm 1 _) aA ?_;by_cases h4:by1 > 1125899906842624
 ·rw[decide_eq_false (fun h=>by omega)];refine aH 27 true (e:=.cmp .gtr (.x fun _=>by1) (.l 1125899906842624)) (decide_eq_true h4) ?_;refine ga env (Fe.frm 1 _) aA ?_;refine fa env (Fe.frm 1 _) ?_;intro B v F;exact⟨rfl,F.now.1⟩
 refine aH 27 false (e:=.cmp .gtr (.x fun _=>by1) (.l 1125899906842624)) (decide_eq_false h4) ?_;refine ga env (Fe.frm 1 _) aA ?_;refine⟨fun q=>?_,fun q=>?_⟩
 ·have h5:(n:Int) > 4096:=by simpa [BE.den,cmpB,IE.den] using q
  rw[decide_eq_false (fun h=>by omega)];refine ga env (Fe.frm 1 _) aA ?_;refine fa env (Fe.frm 1 _) ?_;intro B v F;exact⟨rfl,F.now.1⟩
 have h5:¬((n:Int) > 4096):=by simpa [BE.den,cmpB,IE.den] using q
 clear q;refine ga env (Fe.frm 1 _) aA ?_;rw[decide_eq_true (by omega),Bool.true_and,Bool.true_and,List.all_map];intro B v F;refine(qD L a n c v F.now.2).mono ?_;rintro e w2 ⟨rfl,hb⟩;refine⟨.b (.x fun _=>!(L.all fun p=>eF p.1)),_,rfl,(Fe.frm 1 _).b,F.on hb,?_⟩;clear F hb;refine ga env (Fe.frm 1 _) aA ?_;refine fa env (Fe.frm 1 _) ?_;intro B v F;refine⟨?_,F.now.1⟩;show Ending.returned (.bool !(!(L.all fun p=>eF p.1)))=_;rw[Bool.not_not];rfl
theorem vI (s:kN)(L:List (cS × dN))(a:Option Addr)(n c:Nat)(w:World)(h:cZ w s L a n c):Calls Tryz.prog 15 #[.agg (tE s a n c).toArray] w fun e w'=>e = .returned (.bool (jY s))/\Below w.heap.size w w':=by
 have F0:Fe 0 (fun v=>Below w.heap.size w v/\bI v L a n c) w []:=Fe.start fun _ bv=>⟨bv,h.acts.below bv⟩;have hn:=h.acts.ln;have hsm:=h.acts.sm;have he:=h.eq;have h0:=h.acts;obtain⟨cfg,acts,rounds,by1⟩:=s;simp only at he;subst he;clear h;refine enter (fun _=>0) [.g (jX ⟨cfg,L.map (·.1),rounds,by1⟩ a n c)] [] Tryz.func15 rfl rfl F0 47 rfl ?_
 refine ga env (Fe.frm 0 _) aA ?_;intro B v F;refine(aIP cfg v).mono ?_;rintro e w2 ⟨rfl,hb⟩;unfold jY;simp only;cases oC cfg with
 | false =>
  refine⟨.b (.l false),_,rfl,(Fe.frm 1 _).b,F.on hb,?_⟩;clear F hb;refine ga env (Fe.frm 1 _) aA ?_;refine fa env (Fe.frm 1 _) ?_;intro B v F;exact⟨rfl,F.now.1⟩
 | true =>
 refine⟨.b (.l true),_,rfl,(Fe.frm 1 _).b,F.on hb,?_⟩;clear F hb;have hl:(L.map (·.1)).length=n:=by rw[List.length_map];exact hn
 refine ga env (Fe.frm 1 _) aA ?_;by_cases h1:rounds<0
 ·rw[decide_eq_false (fun h=>by omega)];refine aH 13 true (e:=.cmp .lss (.x fun _=>rounds) (.l 0)) (decide_eq_true h1) ?_;refine ga env (Fe.frm 1 _) aA ?_;refine fa env (Fe.frm 1 _) ?_;intro B v F;exact⟨rfl,F.now.1⟩
 refine aH 13 false (e:=.cmp .lss (.x fun _=>rounds) (.l 0)) (decide_eq_false h1) ?_;refine ga env (Fe.frm 1 _) aA ?_;by_cases h2:rounds > 200
 ·rw[decide_eq_false (fun h=>by omega)];refine aH 18 true (e:=.cmp .gtr (.x fun _=>rounds) (.l 200)) (decide_eq_true h2) ?_;refine ga env (Fe.frm 1 _) aA ?_;refine fa env (Fe.frm 1 _) ?_;intro B v F;exact⟨rfl,F.now.1⟩
 refine aH 18 false (e:=.cmp .gtr (.x fun _=>rounds) (.l 200)) (decide_eq_false h2) ?_;refine ga env (Fe.frm 1 _) aA ?_;by_cases h3:by1<0
 ·rw[decide_eq_false (fun h=>by omega)];refine aH 23 true (e:=.cmp .lss (.x fun _=>by1) (.l 0)) (decide_eq_true h3) ?_;refine ga env (Fe.frm 1 _) aA ?_;refine fa env (Fe.frm 1 _) ?_;intro B v F;exact⟨rfl,F.now.1⟩
 refine aH 23 false (e:=.cmp .lss (.x fun _=>by1) (.l 0)) (decide_eq_false h3) ?_;refine ga env (Fe.frm 1 _) aA ?_;by_cases h4:by1 > 1125899906842624
 ·rw[decide_eq_false (fun h=>by omega)];refine aH 28 true (e:=.cmp .gtr (.x fun _=>by1) (.l 1125899906842624)) (decide_eq_true h4) ?_;refine ga env (Fe.frm 1 _) aA ?_;refine fa env (Fe.frm 1 _) ?_;intro B v F;exact⟨rfl,F.now.1⟩
 refine aH 28 false (e:=.cmp .gtr (.x fun _=>by1) (.l 1125899906842624)) (decide_eq_false h4) ?_;refine ga env (Fe.frm 1 _) aA ?_;refine⟨fun q=>?_,fun q=>?_⟩
 ·have h5:(n:Int) > 4096:=by simpa [BE.den,cmpB,IE.den] using q
  rw[decide_eq_false (fun h=>by omega)];refine ga env (Fe.frm 1 _) aA ?_;refine fa env (Fe.frm 1 _) ?_;intro B v F;exact⟨rfl,F.now.1⟩
 have h5:¬((n:Int) > 4096):=by simpa [BE.den,cmpB,IE.den] using q
 clear q;refine ga env (Fe.frm 1 _) aA ?_;rw[decide_eq_true (by omega),Bool.true_and,Bool.true_and,List.all_map];refine nP (Fe 1 (fun v=>Below w.heap.size w v/\bI v L a n c)) sxL 48 n (fun j=>(L.take j).all (fun p=>eF p.1)=true) rfl (fun B=>⟨rfl,rfl,trivial⟩) (fun _ _ h=>h) ?_;intro i J hJ;refine ga env (Fe.frm 1 _) aA ?_;refine⟨fun q=>?_,fun q=>?_⟩
 ·have hlt:i.j<n:=by simpa [BE.den,cmpB,IE.den] using q
  clear q;have hlL:i.j<L.length:=hn ▸ hlt;obtain⟨b,o,rfl⟩:=h0.base hlt;have hrg:=fun v (hv:bI v L (some ⟨b,o,none⟩) n c)=>hv.range hlL;have hpm:=List.getElem_mem hlL;generalize hpe:L[i.j]=p at hrg hpm ⊢;refine ga env (Fe.frm 1 _) aA ?_;refine bH (.pa fun _=>⟨b,o+i.j*19,none⟩) (fun B v F=>dI (e:=86) (n:=19) rfl Tryz.underlying33 (by kernel_rfl) (by rw[St.aC];rfl) (by rw[St.aC];rfl) hlt) ?_;refine ga env (Fe.frm 1 _) aA ?_;refine bH (.g (fK p.1 p.2)) (fun B v F=>eL (cs:=eZ p.1 p.2) (b:=b) (off:=o+i.j*19) rfl (by rw[St.aC];rfl) (hrg _ F.now.2) Tryz.underlying86 rfl (by kernel_rfl)) ?_;refine ga env (Fe.frm 1 _) aA ?_;intro B v F;refine(aIO p.1 p.2 v (F.now.2.each _ hpm)).mono ?_;rintro e w2 ⟨rfl,hb⟩;cases hok:eF p.1 with
  | false =>
   refine⟨.b (.l false),_,rfl,(Fe.frm 1 _).b,F.on hb,?_⟩;clear F hb;refine ga env (Fe.frm 1 _) aA ?_;refine fa env (Fe.frm 1 _) ?_;intro B v F;refine⟨?_,F.now.1⟩;rw[show (L.all (eF ∘ fun p=>p.1))=false from aAz (p:=fun p:cS × dN=>eF p.1) hlL (hpe ▸ hok)];rfl
  | true =>
   refine⟨.b (.l true),_,rfl,(Fe.frm 1 _).b,F.on hb,?_⟩;clear F hb;refine ga env (Fe.frm 1 _) aA ?_;refine sH hJ hlt (tK hlL i.hp (hpe ▸ hok)) (fun B=>⟨rfl,?_,trivial⟩) (fun _ _ h=>h);simp only[AV.den,IE.den,getT];rw[wrI hlt (by omega)]
 ·have hje:i.j=n:=by
   have:¬i.j<n:=by simpa [BE.den,cmpB,IE.den] using q
   have:=i.hj;omega
  have hall:=i.hp;rw[hje,<- hn,List.take_length]at hall;clear q;refine ga env (Fe.frm 1 _) aA ?_;refine fa env (Fe.frm 1 _) ?_;intro B v F;refine⟨?_,F.now.1⟩;rw[show (L.all (eF ∘ fun p=>p.1))=true from hall];rfl
