/- For scbytes_law_holds. -/
import Derived.Test.YtgeihgombjbkbaaGreatSyb31
set_option maxHeartbeats 16000000
set_option maxRecDepth 100000
namespace Go.Proofs.Own
open Go Go.RowKit
end Go.Proofs.Own
namespace Go.Proofs.YtgeihgombjbkbaaGreat
open Go Go.RowKit Go.Maps Go.Proofs.Own
theorem fF (a:Nat)(v:Value)(l:List Nat)(w:World)(hw:eA w a v l)(hl:l.length<=1000000)(hb:∀c ∈ l,c<256) :
  Calls Tryz.prog 39 #[.pointer (some ⟨a,0,none⟩)] w fun e w'=>∃v',e = .returned v'/\aX w' w.heap.size 5 .u8 v' (ints l)/\Bytes w' v' l/\Below w.heap.size w w':=by
 have HW:=Lib.hid hw;have HB:=Lib.hid hb;have x0:=hw.c;clear hw hb;have HL:Hid ((ints l).length<=2097152):=Lib.hid (by rw[aD];omega);go_enter Tryz.func39,Tryz.ntmps39;go_wp2_with fail;refine(rC _ _ _ HW.out.own.reads HL.out).mono ?_;rintro e w1 ⟨v1,rfl,hown,hb1⟩;have HO:=Lib.hid hown;have B1:=Lib.hid hb1;clear hown hb1;go_wp2_with fail;go_ret;exact⟨v1,rfl,HO.out,Bytes.dJ HO.out HB.out (by omega),B1.out⟩
theorem lG {w0 w:World}{R:World->Prop}{L:Bx}{b:Nat}(f:Fr (fun _=>False) w0 w (L ++ [(b,[.slice none 0 0])]) R):FrW b w0 (.slice none 0 0) R (.slice none 0 0) [] w L:=by
 have hi:(L ++ [(b,[Value.slice none 0 0])])[L.length]? = some (b,[.slice none 0 0]):=by simp
 have hbx:=f.box _ _ hi;refine⟨fun i p hp=>f.box i p (by rw[List.getElem?_append_left (List.getElem?_eq_some_iff.1 hp).1];exact hp),fun i j p q hp hq=>f.inj i j p q (by rw[List.getElem?_append_left (List.getElem?_eq_some_iff.1 hp).1];exact hp) (by rw[List.getElem?_append_left (List.getElem?_eq_some_iff.1 hq).1];exact hq),fun k hk=>?_,⟨(hbx.2 0 _ rfl).1,aX.nil _ _ _ _,(hbx.2 0 _ rfl).2⟩,⟨Kept.aQ f.bel fun k h1 h2=>by omega,nofun⟩,f.saf.sub fun k _ h=>?_⟩
 ·obtain⟨p,hp,rfl⟩:=List.mem_map.1 hk;have h1:=f.rng p (List.mem_append_left _ hp);obtain⟨j,hj⟩:=List.getElem?_of_mem hp;have hjl:=(List.getElem?_eq_some_iff.1 hj).1;refine⟨h1.1,fun h=>?_,nofun⟩;have:=f.inj j L.length p _ (by rw[List.getElem?_append_left hjl];exact hj) hi h;omega
 ·refine .inr ?_;rw[List.map_append];rcases h with rfl|h|h
  ·exact List.mem_append_right _ (by simp)
  ·cases h
  ·exact List.mem_append_left _ h
theorem FrW.bel {b:Nat}{w0 w:World}{v0 v:Value}{R:World->Prop}{l:List Nat}{L:Bx}(F:FrW b w0 v0 R v l w L)(hb:w0.heap.size<=b)(hv:v0 = .slice none 0 0):Below w0.heap.size w0 w :=
 F.gr.kept.below (Nat.le_refl _) fun k hk=>by
  subst hv;rcases hk with rfl|hk
  ·exact hb
  ·cases hk
def mC (c:cI):Prop:=0<=c.cl/\0<=c.rq/\c.rq<18446744073709551616/\0<=c.id/\c.id<18446744073709551616
theorem uO:∀ {l:List aO}{e:Int},rowE e l=true->SpR l
 | [],_,_=>nofun
 | s::l,e,h=>by
  rw[rowE,Bool.and_eq_true,Bool.and_eq_true]at h;have h1:=h.1.1;unfold fQ at h1;simp only[Bool.and_eq_true,decide_eq_true_eq]at h1;intro x hx;rcases List.mem_cons.1 hx with rfl|hx
  ·omega
  ·exact uO h.2 x hx
theorem oT {l:List aO}(h:bI l=0):SpR l/\l.length<=32:=by
 unfold bI at h;split at h
 ·cases h
 ·split at h
  ·exact⟨uO (by assumption),by omega⟩
  ·cases h
theorem lD {k:fC}(h:bV k=0):(0<=k.o/\k.o<604800)/\(SpR k.w/\k.w.length<=32)/\(SpR k.c/\k.c.length<=32):=by
 unfold bV at h;split at h
 ·cases h
 rename_i h1;split at h
 ·rename_i h2;exact absurd h h2
 rename_i h2;have h2:bJ k.w=0:=by simpa using h2
 refine⟨by omega,oT ?_,oT h⟩;unfold bJ at h2;split at h2
 ·assumption
 ·exact h2
theorem mJ {k:fS}(h:dW k=true):(0<=k.c/\k.c<=7)/\(1<=k.r/\k.r<=8)/\(1<=k.b/\k.b<=1048576)/\SpR k.l/\k.l.length<=6:=by
 unfold dW at h;simp only[Bool.and_eq_true,decide_eq_true_eq,List.all_eq_true]at h;refine⟨h.1,h.2.2.1,h.2.2.2.1,fun s hs=>?_,h.2.1.2⟩;have:=h.2.2.2.2 s hs;unfold dX at this;simp only[Bool.and_eq_true,decide_eq_true_eq]at this;omega
theorem aIe {z:Int}(h1:z<18446744073709551616):∀c ∈ aC z.toNat,c<256:=iI (by omega)
theorem yO {z:Int}(h1:z<18446744073709551616):(aC z.toNat).length<=9:=bB (by omega)
theorem rL {z:Int}(h0:-9223372036854775808<=z)(h1:z<9223372036854775808):∀c ∈ cL z,c<256:=by
 unfold cL;split
 ·intro c hc;have:=eG (n:=(-1-z).toNat) (by omega);rcases List.mem_cons.1 hc with rfl|hc
  ·omega
  ·exact rI _ c hc
 ·exact iI (by omega)
theorem aKi {l:List aO}(h:SpR l):∀c ∈ bG l,c<256:=fun c hc=>by
 obtain⟨s,hs,hc⟩:=List.mem_flatMap.1 hc;have:=h s hs;rcases List.mem_append.1 hc with hc|hc
 ·exact iI (by omega) c hc
 ·exact iI (by omega) c hc
theorem fW {l:List aO}(h:SpR l)(hl:l.length<=32):(dL l).length<=585 /\ ∀c ∈ dL l,c<256:=by
 have h1:=dD l h;have h2:=bB (n:=l.length) (by omega);refine⟨by rw[dL,List.length_append];omega,fun c hc=>?_⟩;rcases List.mem_append.1 hc with hc|hc
 ·exact iI (by omega) c hc
 ·exact aKi h c hc
theorem bW {l m:List Nat}{a b:Nat}(h:l.length<=a /\ ∀c ∈ l,c<256)(k:m.length<=b /\ ∀c ∈ m,c<256):(l++m).length<=a+b /\ ∀c ∈ l++m,c<256 :=
 ⟨by rw[List.length_append];omega,fun c hc=>(List.mem_append.1 hc).elim (h.2 c) (k.2 c)⟩
theorem cQ {z:Int}(h1:z<18446744073709551616):(aC z.toNat).length<=9 /\ ∀c ∈ aC z.toNat,c<256:=⟨yO h1,aIe h1⟩
theorem mL {z:Int}(h0:-9223372036854775808<=z)(h1:z<9223372036854775808):(cL z).length<=9 /\ ∀c ∈ cL z,c<256:=⟨fH h0 h1,rL h0 h1⟩
theorem nW {k:fC}(h:bV k=0):(jN k).length<=1179 /\ ∀c ∈ jN k,c<256:=by
 obtain⟨h1,h2,h3⟩:=lD h;exact bW (mL (by omega) (by omega)) (bW (fW h2.1 h2.2) (fW h3.1 h3.2))
theorem oA {k:fS}(h:dW k=true):(iW k).length<=1179 /\ ∀c ∈ iW k,c<256:=by
 obtain⟨h1,h2,h3,h4,h5⟩:=mJ h;have:=bW (cQ (z:=k.c) (by omega)) (bW (fW h4 (by omega)) (bW (cQ (z:=k.r) (by omega)) (cQ (z:=k.b) (by omega))));exact⟨Nat.le_trans this.1 (by decide),this.2⟩
theorem lF {c:cI}(h:bY c=true)(hf:mC c)(h0:-9223372036854775808<=c.at')(h1:c.at'<9223372036854775808):(gZ c).length<=1215 /\ ∀x ∈ gZ c,x<256:=by
 obtain⟨f1,f2,f3,f4,f5⟩:=hf;obtain⟨k1,k2⟩:=nJ h;unfold bY at h;simp only[Bool.and_eq_true,decide_eq_true_eq]at h;obtain⟨_,hcl,_,hr⟩:=h;refine bW (cQ (z:=c.k) (by omega)) (bW (cQ (z:=c.cl) (by omega)) (bW (cQ (z:=c.rq) (by omega)) (bW (b:=1179) (a:=9) ?_ ?_)))
 ·split
  ·exact cQ (by omega)
  ·exact⟨Nat.zero_le _,nofun⟩
 ·unfold tJ;split
  ·rename_i e;rw[if_pos e]at hr;exact nW (by simpa using hr)
  rename_i e2;rw[if_neg e2]at hr;split
  ·rename_i e;rw[if_pos e]at hr;exact oA hr
  rename_i e3;rw[if_neg e3]at hr;simp only[Bool.and_eq_true,decide_eq_true_eq]at hr;split
  ·have:=cQ (z:=c.ct) (by omega);exact⟨by omega,this.2⟩
  ·split
   ·have:=mL h0 h1;exact⟨by omega,this.2⟩
   ·exact⟨Nat.zero_le _,nofun⟩
def mR (c:cI)(w:World):Ending->World->Prop:=if bY c=true then fun e w'=>Below w.heap.size w w' /\ ∃v,e = .returned (.tuple #[v,.int .i64 0])/\aX w' w.heap.size 5 .u8 v (ints (gZ c))/\Bytes w' v (gZ c) else fun e w'=>Below w.heap.size w w'/\e = .returned (.tuple #[.slice none 0 0,.int .i64 2])
theorem aIq (b:Nat)(v:Value)(l:List Nat)(k:fC)(wa:Option Addr)(wn wc:Nat)(ca:Option Addr)(cn cc:Nat)(w:World)(hw:eA w b v l)(hs:∀u,Kept w u (fun j=>j=b\/v.ownBlock=some j)->cE u k wa wn wc ca cn cc)
  (ho:-9223372036854775808<=k.o/\k.o<9223372036854775808) (h1:SpR k.w) (h2:SpR k.c) (hwl:k.w.length<=32) (hcl:k.c.length<=32) (hl:l.length+1300<=1000000) :
  Calls Tryz.prog 128 #[.pointer (some ⟨b,0,none⟩),.agg #[.int .i64 k.o,.slice wa wn wc,.slice ca cn cc]] w (sM b v (l++jN k) w):=by
 have h:=hs w (Kept.refl _ _);obtain rfl:=h.lw;obtain rfl:=h.lc;exact uB b v l k wa wc ca cc w hw hs ho h1 h2 hwl hcl hl
theorem aIs (b:Nat)(v:Value)(l:List Nat)(k:fS)(la:Option Addr)(ln lc:Nat)(w:World)(hw:eA w b v l)(hs:∀u,Kept w u (fun j=>j=b\/v.ownBlock=some j)->cF u k la ln lc)
  (h0:0<=k.c/\k.c<9223372036854775808) (h1:0<=k.r/\k.r<9223372036854775808) (h2:0<=k.b/\k.b<9223372036854775808) (h3:SpR k.l) (hll:k.l.length<=32) (hl:l.length+1300<=1000000) :
  Calls Tryz.prog 129 #[.pointer (some ⟨b,0,none⟩),.agg #[.int .i64 k.c,.slice la ln lc,.int .i64 k.r,.int .i64 k.b]] w (sM b v (l++iW k) w):=by
 have h:=hs w (Kept.refl _ _);obtain rfl:=h.ll;exact uC b v l k la lc w hw hs h0 h1 h2 h3 hll hl
theorem pK (c:cI)(A:fO)(w:World)(h:aY w c A)(hf:mC c):Calls Tryz.prog 85 #[.agg (gY c A).toArray] w (mR c w):=by
 have hat:=h.at0;have hat1:=h.at1;have F0:Fr (fun _=>False) w w [] (fun u=>aY u c A):=Fr.zero w nofun fun u ku=>h.below (ku.below (Nat.le_refl _) nofun);refine enter (F:=fun u L=>Fr (fun _=>False) w u L (fun u=>aY u c A)) (fun _=>0) [.g (bX (.x fun _=>c.k) c A)] [] Tryz.func85 rfl rfl F0 58 rfl ?_;clear F0 h;refine ga env (Fr.frm _ _ _) aA ?_;intro B u F;refine(cH c A u F.r).mono ?_;rintro e w2 ⟨rfl,hb⟩;cases hok:bY c with
 | false =>
  refine⟨.b (.l false),_,rfl,(Fr.frm _ _ _).b,F.call hb,?_⟩;clear F hb;refine ga env (Fr.frm _ _ _) aA ?_;refine fa env (Fr.frm _ _ _) ?_;intro B u F;rw[mR,if_neg (by rw[hok];decide)];exact⟨F.bel,rfl⟩
 | true =>
 refine⟨.b (.l true),_,rfl,(Fr.frm _ _ _).b,F.call hb,?_⟩;clear F hb;have hsm:=lF hok hf hat hat1;obtain⟨f1,f2,f3,f4,f5⟩:=hf;obtain⟨k1,k2⟩:=nJ hok;have hr:=hok;unfold bY at hr;simp only[Bool.and_eq_true,decide_eq_true_eq]at hr;obtain⟨_,hcl,_,hr⟩:=hr;refine ga env (Fr.frm _ _ _) aA ?_;intro B u F;refine(rZ c.k u).mono ?_;rintro e w2 ⟨rfl,hb⟩;have hid:=vU k1 k2;have hn:cW c.k=true:=by unfold cW;simp only[Bool.and_eq_true,decide_eq_true_eq];exact⟨k1,k2⟩
 rw[hn];have hPW:gZ c=gZ c:=rfl
 conv at hPW=>rhs;unfold gZ tJ
 unfold mR;rw[if_pos hok];generalize gZ c=PW at hPW hsm ⊢;rcases(by omega:c.k=2\/c.k=3\/c.k=4\/c.k=9\/c.k=1\/(¬c.k=2 /\ ¬c.k=3 /\ ¬c.k=4 /\ ¬c.k=9 /\ ¬c.k=1)) with hk|hk|hk|hk|hk|⟨hk2,hk3,hk4,hk9,hk1⟩
 ·have e2:(c.k==2)=true:=by rw[hk];rfl
  have e3:(c.k==3)=false:=by rw[hk];rfl
  have e4:(c.k==4)=false:=by rw[hk];rfl
  have e9:(c.k==9)=false:=by rw[hk];rfl
  have ei:idB c.k=true:=by rw[hk];rfl
  rw[ei,hk]at hPW;simp only[if_true]at hPW;rw[e2,e3,e4,e9,ei];refine⟨.t [.g [.b (.l true),.b (.l true),.b (.l false),.b (.l false),.b (.l false)],.b (.l true)],_,rfl,(Fr.frm _ _ _).b,F.call hb,?_⟩;clear F hb e2 e3 e4 e9 ei hid hn hok;refine ga env (Fr.frm _ _ _) aA ?_;refine lL 2 (fun B u F=>⟨FrW (B 2) w (.slice none 0 0) (fun u=>aY u c A) (.slice none 0 0) [],lG (L:=[(B 0,_),(B 1,_)]) F,?_⟩);have hwb:w.heap.size<=B 2:=(F.rng (B 2,_) (List.mem_of_getElem? (i:=2) rfl)).1;clear F;generalize B 2=b at hwb ⊢;clear B u;refine ga env fw aA ?_;refine cY bN [IntKind.u64.wrap c.k,c.cl,c.rq] fun g=>?_;refine ga env fw aA ?_;refine dQ [c.k.toNat,c.cl.toNat,c.rq.toNat] (by rw[gG (by omega) (by omega)];show [_,c.cl,c.rq] = [_,((c.cl.toNat:Nat):Int),((c.rq.toNat:Nat):Int)];rw[Int.toNat_of_nonneg f1,Int.toNat_of_nonneg f2]) (by simp;omega) (by simp) fun v1=>?_;have hX9:=aV [c.k.toNat,c.cl.toNat,c.rq.toNat] (by simp;omega);rw[List.nil_append]at *
  generalize hX:aE [c.k.toNat,c.cl.toNat,c.rq.toNat]=X at hX9;refine ga env fw aA ?_;refine cY bN [c.id] fun g=>?_;refine ga env fw aA ?_;refine dQ [c.id.toNat] (wnZ f4) (by simp;omega) (by simp at hX9 ⊢;omega) fun v2=>?_;have hY9:=aV [c.id.toNat] (by simp;omega);generalize hY:X++aE [c.id.toNat]=Y;have hYl:Y.length<=40:=by rw[<- hY,List.length_append];simp at hX9 hY9;omega
  refine ga env fw aA ?_;rw[if_pos hk]at hr;have hc0:bV c.cal=0:=by simpa using hr
  obtain⟨g1,g2,g3⟩:=lD hc0;intro B u F;refine(aIq b _ Y c.cal A.wa A.wn A.wc A.ca A.cn A.cc u F.wr (fun x kx=>(F.s1 x (kx.mono fun j _ hj=>hj.elim .inl fun hj=>.inr (.inl hj))).cal) ⟨by omega,by omega⟩ g2.1 g3.1 g2.2 g3.2 (by omega)).mono ?_;rintro e w3 ⟨rfl,v3,hw3,hg3⟩;refine⟨.t [],_,rfl,fw.b,F.put hw3 hg3,?_⟩;clear F hw3 hg3;have hE:PW=Y++jN c.cal:=by rw[hPW,<- hY,<- hX,hk];simp[aE]
  rw[<- hE];refine ga env fw aA ?_;intro B u F;refine(fF b _ PW u F.wr (by omega) hsm.2).mono ?_;rintro e w4 ⟨v4,rfl,ho,hb4,hbl⟩;obtain⟨a4,c4,rfl,_⟩:=hb4.shape;have hsz:=(F.bel hwb rfl).size;have hB:=(F.bel hwb rfl).trans (hbl.mono hsz);refine⟨.sl (fun _=>a4) (fun _=>PW.length) (fun _=>c4),_,rfl,fw.b,F.fG hbl (R':=fun u=>aX u w.heap.size 5 .u8 (.slice a4 PW.length c4) (ints PW)/\Bytes u (.slice a4 PW.length c4) PW) (fun x kx=>?_),?_⟩
  ·have hno:∀j,(Value.slice a4 PW.length c4).ownBlock=some j -> ¬j<u.heap.size:=fun j hj=>Nat.not_lt.2 (ho.lt j hj).1;exact⟨(ho.lower fun j hj=>Nat.le_trans hsz (ho.lt j hj).1).kept kx hno,hb4.kept kx hno⟩
  clear F hbl ho hb4 hB hsz;refine ga env fw aA ?_;refine fa env fw ?_;intro B u F;exact⟨F.bel hwb rfl,_,rfl,F.now.1.1,F.now.1.2⟩
 ·have e2:(c.k==2)=false:=by rw[hk];rfl
  have e3:(c.k==3)=true:=by rw[hk];rfl
  have e4:(c.k==4)=false:=by rw[hk];rfl
  have e9:(c.k==9)=false:=by rw[hk];rfl
  have ei:idB c.k=true:=by rw[hk];rfl
  rw[ei,hk]at hPW;simp only[if_true,(by decide:¬(3:Int)=2),if_false]at hPW;rw[e2,e3,e4,e9,ei];refine⟨.t [.g [.b (.l true),.b (.l false),.b (.l true),.b (.l false),.b (.l false)],.b (.l true)],_,rfl,(Fr.frm _ _ _).b,F.call hb,?_⟩;clear F hb e2 e3 e4 e9 ei hid hn hok;refine ga env (Fr.frm _ _ _) aA ?_;refine lL 2 (fun B u F=>⟨FrW (B 2) w (.slice none 0 0) (fun u=>aY u c A) (.slice none 0 0) [],lG (L:=[(B 0,_),(B 1,_)]) F,?_⟩);have hwb:w.heap.size<=B 2:=(F.rng (B 2,_) (List.mem_of_getElem? (i:=2) rfl)).1;clear F;generalize B 2=b at hwb ⊢;clear B u;refine ga env fw aA ?_;refine cY bN [IntKind.u64.wrap c.k,c.cl,c.rq] fun g=>?_;refine ga env fw aA ?_;refine dQ [c.k.toNat,c.cl.toNat,c.rq.toNat] (by rw[gG (by omega) (by omega)];show [_,c.cl,c.rq] = [_,((c.cl.toNat:Nat):Int),((c.rq.toNat:Nat):Int)];rw[Int.toNat_of_nonneg f1,Int.toNat_of_nonneg f2]) (by simp;omega) (by simp) fun v1=>?_;have hX9:=aV [c.k.toNat,c.cl.toNat,c.rq.toNat] (by simp;omega);rw[List.nil_append]at *
  generalize hX:aE [c.k.toNat,c.cl.toNat,c.rq.toNat]=X at hX9;refine ga env fw aA ?_;refine cY bN [c.id] fun g=>?_;refine ga env fw aA ?_;refine dQ [c.id.toNat] (wnZ f4) (by simp;omega) (by simp at hX9 ⊢;omega) fun v2=>?_;have hY9:=aV [c.id.toNat] (by simp;omega);generalize hY:X++aE [c.id.toNat]=Y;have hYl:Y.length<=40:=by rw[<- hY,List.length_append];simp at hX9 hY9;omega
  refine ga env fw aA ?_;rw[if_neg (by omega),if_pos hk]at hr;obtain⟨g1,g2,g3,g4,g5⟩:=mJ hr;intro B u F;refine(aIs b _ Y c.tm A.la A.ln A.lc u F.wr (fun x kx=>(F.s1 x (kx.mono fun j _ hj=>hj.elim .inl fun hj=>.inr (.inl hj))).tm) ⟨by omega,by omega⟩ ⟨by omega,by omega⟩ ⟨by omega,by omega⟩ g4 (by omega) (by omega)).mono ?_;rintro e w3 ⟨rfl,v3,hw3,hg3⟩;refine⟨.t [],_,rfl,fw.b,F.put hw3 hg3,?_⟩;clear F hw3 hg3;have hE:PW=Y++iW c.tm:=by rw[hPW,<- hY,<- hX,hk];simp[aE]
  rw[<- hE];refine ga env fw aA ?_;intro B u F;refine(fF b _ PW u F.wr (by omega) hsm.2).mono ?_;rintro e w4 ⟨v4,rfl,ho,hb4,hbl⟩;obtain⟨a4,c4,rfl,_⟩:=hb4.shape;have hsz:=(F.bel hwb rfl).size;have hB:=(F.bel hwb rfl).trans (hbl.mono hsz);refine⟨.sl (fun _=>a4) (fun _=>PW.length) (fun _=>c4),_,rfl,fw.b,F.fG hbl (R':=fun u=>aX u w.heap.size 5 .u8 (.slice a4 PW.length c4) (ints PW)/\Bytes u (.slice a4 PW.length c4) PW) (fun x kx=>?_),?_⟩
  ·have hno:∀j,(Value.slice a4 PW.length c4).ownBlock=some j -> ¬j<u.heap.size:=fun j hj=>Nat.not_lt.2 (ho.lt j hj).1;exact⟨(ho.lower fun j hj=>Nat.le_trans hsz (ho.lt j hj).1).kept kx hno,hb4.kept kx hno⟩
  clear F hbl ho hb4 hB hsz;refine ga env fw aA ?_;refine fa env fw ?_;intro B u F;exact⟨F.bel hwb rfl,_,rfl,F.now.1.1,F.now.1.2⟩
 ·have e2:(c.k==2)=false:=by rw[hk];rfl
  have e3:(c.k==3)=false:=by rw[hk];rfl
  have e4:(c.k==4)=true:=by rw[hk];rfl
  have e9:(c.k==9)=false:=by rw[hk];rfl
  have ei:idB c.k=true:=by rw[hk];rfl
  rw[ei,hk]at hPW;simp only[if_true,(by decide:¬(4:Int)=2),(by decide:¬(4:Int)=3),if_false]at hPW;rw[e2,e3,e4,e9,ei];refine⟨.t [.g [.b (.l true),.b (.l false),.b (.l false),.b (.l true),.b (.l false)],.b (.l true)],_,rfl,(Fr.frm _ _ _).b,F.call hb,?_⟩;clear F hb e2 e3 e4 e9 ei hid hn hok;refine ga env (Fr.frm _ _ _) aA ?_;refine lL 2 (fun B u F=>⟨FrW (B 2) w (.slice none 0 0) (fun u=>aY u c A) (.slice none 0 0) [],lG (L:=[(B 0,_),(B 1,_)]) F,?_⟩);have hwb:w.heap.size<=B 2:=(F.rng (B 2,_) (List.mem_of_getElem? (i:=2) rfl)).1;clear F;generalize B 2=b at hwb ⊢;clear B u;refine ga env fw aA ?_;refine cY bN [IntKind.u64.wrap c.k,c.cl,c.rq] fun g=>?_;refine ga env fw aA ?_;refine dQ [c.k.toNat,c.cl.toNat,c.rq.toNat] (by rw[gG (by omega) (by omega)];show [_,c.cl,c.rq] = [_,((c.cl.toNat:Nat):Int),((c.rq.toNat:Nat):Int)];rw[Int.toNat_of_nonneg f1,Int.toNat_of_nonneg f2]) (by simp;omega) (by simp) fun v1=>?_;have hX9:=aV [c.k.toNat,c.cl.toNat,c.rq.toNat] (by simp;omega);rw[List.nil_append]at *
  generalize hX:aE [c.k.toNat,c.cl.toNat,c.rq.toNat]=X at hX9;refine ga env fw aA ?_;refine cY bN [c.id] fun g=>?_;refine ga env fw aA ?_;refine dQ [c.id.toNat] (wnZ f4) (by simp;omega) (by simp at hX9 ⊢;omega) fun v2=>?_;have hY9:=aV [c.id.toNat] (by simp;omega);generalize hY:X++aE [c.id.toNat]=Y;have hYl:Y.length<=40:=by rw[<- hY,List.length_append];simp at hX9 hY9;omega
  refine ga env fw aA ?_;rw[if_neg (by omega),if_neg (by omega)]at hr;simp only[Bool.and_eq_true,decide_eq_true_eq]at hr;refine cY bN [IntKind.u64.wrap c.ct] fun g=>?_;refine ga env fw aA ?_;refine dQ [c.ct.toNat] (aOH (by omega) (by omega)) (by simp;omega) (by simp;omega) fun v3=>?_;have hE:PW=Y++aE [c.ct.toNat]:=by rw[hPW,<- hY,<- hX,hk];simp[aE]
  rw[<- hE];refine ga env fw aA ?_;intro B u F;refine(fF b _ PW u F.wr (by omega) hsm.2).mono ?_;rintro e w4 ⟨v4,rfl,ho,hb4,hbl⟩;obtain⟨a4,c4,rfl,_⟩:=hb4.shape;have hsz:=(F.bel hwb rfl).size;have hB:=(F.bel hwb rfl).trans (hbl.mono hsz);refine⟨.sl (fun _=>a4) (fun _=>PW.length) (fun _=>c4),_,rfl,fw.b,F.fG hbl (R':=fun u=>aX u w.heap.size 5 .u8 (.slice a4 PW.length c4) (ints PW)/\Bytes u (.slice a4 PW.length c4) PW) (fun x kx=>?_),?_⟩
  ·have hno:∀j,(Value.slice a4 PW.length c4).ownBlock=some j -> ¬j<u.heap.size:=fun j hj=>Nat.not_lt.2 (ho.lt j hj).1;exact⟨(ho.lower fun j hj=>Nat.le_trans hsz (ho.lt j hj).1).kept kx hno,hb4.kept kx hno⟩
  clear F hbl ho hb4 hB hsz;refine ga env fw aA ?_;refine fa env fw ?_;intro B u F;exact⟨F.bel hwb rfl,_,rfl,F.now.1.1,F.now.1.2⟩
 ·have e2:(c.k==2)=false:=by rw[hk];rfl
  have e3:(c.k==3)=false:=by rw[hk];rfl
  have e4:(c.k==4)=false:=by rw[hk];rfl
  have e9:(c.k==9)=true:=by rw[hk];rfl
  have ei:idB c.k=false:=by rw[hk];rfl
  rw[ei,hk]at hPW;simp only[Bool.false_eq_true,if_true,(by decide:¬(9:Int)=2),(by decide:¬(9:Int)=3),(by decide:¬(9:Int)=4),if_false]at hPW;rw[e2,e3,e4,e9,ei];refine⟨.t [.g [.b (.l false),.b (.l false),.b (.l false),.b (.l false),.b (.l true)],.b (.l true)],_,rfl,(Fr.frm _ _ _).b,F.call hb,?_⟩;clear F hb e2 e3 e4 e9 ei hid hn hok;refine ga env (Fr.frm _ _ _) aA ?_;refine lL 2 (fun B u F=>⟨FrW (B 2) w (.slice none 0 0) (fun u=>aY u c A) (.slice none 0 0) [],lG (L:=[(B 0,_),(B 1,_)]) F,?_⟩);have hwb:w.heap.size<=B 2:=(F.rng (B 2,_) (List.mem_of_getElem? (i:=2) rfl)).1;clear F;generalize B 2=b at hwb ⊢;clear B u;refine ga env fw aA ?_;refine cY bN [IntKind.u64.wrap c.k,c.cl,c.rq] fun g=>?_;refine ga env fw aA ?_;refine dQ [c.k.toNat,c.cl.toNat,c.rq.toNat] (by rw[gG (by omega) (by omega)];show [_,c.cl,c.rq] = [_,((c.cl.toNat:Nat):Int),((c.rq.toNat:Nat):Int)];rw[Int.toNat_of_nonneg f1,Int.toNat_of_nonneg f2]) (by simp;omega) (by simp) fun v1=>?_;have hX9:=aV [c.k.toNat,c.cl.toNat,c.rq.toNat] (by simp;omega);rw[List.nil_append]at *
  generalize hX:aE [c.k.toNat,c.cl.toNat,c.rq.toNat]=X at hX9;refine ga env fw aA ?_;have hYl:X.length<=40:=by simp at hX9;omega
  refine cY nL [c.at'] fun g=>?_;refine ga env fw aA ?_;refine xQ c.at' hat hat1 (by omega) fun v3=>?_;have hE:PW=X++cL c.at':=by rw[hPW,<- hX,hk];simp[aE]
  rw[<- hE];refine ga env fw aA ?_;intro B u F;refine(fF b _ PW u F.wr (by omega) hsm.2).mono ?_;rintro e w4 ⟨v4,rfl,ho,hb4,hbl⟩;obtain⟨a4,c4,rfl,_⟩:=hb4.shape;have hsz:=(F.bel hwb rfl).size;have hB:=(F.bel hwb rfl).trans (hbl.mono hsz);refine⟨.sl (fun _=>a4) (fun _=>PW.length) (fun _=>c4),_,rfl,fw.b,F.fG hbl (R':=fun u=>aX u w.heap.size 5 .u8 (.slice a4 PW.length c4) (ints PW)/\Bytes u (.slice a4 PW.length c4) PW) (fun x kx=>?_),?_⟩
  ·have hno:∀j,(Value.slice a4 PW.length c4).ownBlock=some j -> ¬j<u.heap.size:=fun j hj=>Nat.not_lt.2 (ho.lt j hj).1;exact⟨(ho.lower fun j hj=>Nat.le_trans hsz (ho.lt j hj).1).kept kx hno,hb4.kept kx hno⟩
  clear F hbl ho hb4 hB hsz;refine ga env fw aA ?_;refine fa env fw ?_;intro B u F;exact⟨F.bel hwb rfl,_,rfl,F.now.1.1,F.now.1.2⟩
 ·have e2:(c.k==2)=false:=by rw[hk];rfl
  have e3:(c.k==3)=false:=by rw[hk];rfl
  have e4:(c.k==4)=false:=by rw[hk];rfl
  have e9:(c.k==9)=false:=by rw[hk];rfl
  have ei:idB c.k=false:=by rw[hk];rfl
  rw[ei,hk]at hPW;simp only[Bool.false_eq_true,(by decide:¬(1:Int)=2),(by decide:¬(1:Int)=3),(by decide:¬(1:Int)=4),(by decide:¬(1:Int)=9),if_false]at hPW;rw[e2,e3,e4,e9,ei];refine⟨.t [.g [.b (.l false),.b (.l false),.b (.l false),.b (.l false),.b (.l false)],.b (.l true)],_,rfl,(Fr.frm _ _ _).b,F.call hb,?_⟩;clear F hb e2 e3 e4 e9 ei hid hn hok;refine ga env (Fr.frm _ _ _) aA ?_;refine lL 2 (fun B u F=>⟨FrW (B 2) w (.slice none 0 0) (fun u=>aY u c A) (.slice none 0 0) [],lG (L:=[(B 0,_),(B 1,_)]) F,?_⟩);have hwb:w.heap.size<=B 2:=(F.rng (B 2,_) (List.mem_of_getElem? (i:=2) rfl)).1;clear F;generalize B 2=b at hwb ⊢;clear B u;refine ga env fw aA ?_;refine cY bN [IntKind.u64.wrap c.k,c.cl,c.rq] fun g=>?_;refine ga env fw aA ?_;refine dQ [c.k.toNat,c.cl.toNat,c.rq.toNat] (by rw[gG (by omega) (by omega)];show [_,c.cl,c.rq] = [_,((c.cl.toNat:Nat):Int),((c.rq.toNat:Nat):Int)];rw[Int.toNat_of_nonneg f1,Int.toNat_of_nonneg f2]) (by simp;omega) (by simp) fun v1=>?_;have hX9:=aV [c.k.toNat,c.cl.toNat,c.rq.toNat] (by simp;omega);rw[List.nil_append]at *
  generalize hX:aE [c.k.toNat,c.cl.toNat,c.rq.toNat]=X at hX9;refine ga env fw aA ?_;have hYl:X.length<=40:=by simp at hX9;omega
  have hE:PW=X:=by rw[hPW,<- hX,hk];simp[aE]
  rw[<- hE];intro B u F;refine(fF b _ PW u F.wr (by omega) hsm.2).mono ?_;rintro e w4 ⟨v4,rfl,ho,hb4,hbl⟩;obtain⟨a4,c4,rfl,_⟩:=hb4.shape;have hsz:=(F.bel hwb rfl).size;have hB:=(F.bel hwb rfl).trans (hbl.mono hsz);refine⟨.sl (fun _=>a4) (fun _=>PW.length) (fun _=>c4),_,rfl,fw.b,F.fG hbl (R':=fun u=>aX u w.heap.size 5 .u8 (.slice a4 PW.length c4) (ints PW)/\Bytes u (.slice a4 PW.length c4) PW) (fun x kx=>?_),?_⟩
  ·have hno:∀j,(Value.slice a4 PW.length c4).ownBlock=some j -> ¬j<u.heap.size:=fun j hj=>Nat.not_lt.2 (ho.lt j hj).1;exact⟨(ho.lower fun j hj=>Nat.le_trans hsz (ho.lt j hj).1).kept kx hno,hb4.kept kx hno⟩
  clear F hbl ho hb4 hB hsz;refine ga env fw aA ?_;refine fa env fw ?_;intro B u F;exact⟨F.bel hwb rfl,_,rfl,F.now.1.1,F.now.1.2⟩
 ·have e2:(c.k==2)=false:=beq_eq_false_iff_ne.2 hk2;have e3:(c.k==3)=false:=beq_eq_false_iff_ne.2 hk3;have e4:(c.k==4)=false:=beq_eq_false_iff_ne.2 hk4;have e9:(c.k==9)=false:=beq_eq_false_iff_ne.2 hk9;have ei:idB c.k=true:=hid.2 ⟨hk1,hk9⟩;rw[ei,if_pos rfl,if_neg hk2,if_neg hk3,if_neg hk4,if_neg hk9]at hPW;rw[e2,e3,e4,e9,ei];refine⟨.t [.g [.b (.l true),.b (.l false),.b (.l false),.b (.l false),.b (.l false)],.b (.l true)],_,rfl,(Fr.frm _ _ _).b,F.call hb,?_⟩;clear F hb e2 e3 e4 e9 ei hid hn hok;refine ga env (Fr.frm _ _ _) aA ?_;refine lL 2 (fun B u F=>⟨FrW (B 2) w (.slice none 0 0) (fun u=>aY u c A) (.slice none 0 0) [],lG (L:=[(B 0,_),(B 1,_)]) F,?_⟩);have hwb:w.heap.size<=B 2:=(F.rng (B 2,_) (List.mem_of_getElem? (i:=2) rfl)).1;clear F;generalize B 2=b at hwb ⊢;clear B u;refine ga env fw aA ?_;refine cY bN [IntKind.u64.wrap c.k,c.cl,c.rq] fun g=>?_;refine ga env fw aA ?_;refine dQ [c.k.toNat,c.cl.toNat,c.rq.toNat] (by rw[gG (by omega) (by omega)];show [_,c.cl,c.rq] = [_,((c.cl.toNat:Nat):Int),((c.rq.toNat:Nat):Int)];rw[Int.toNat_of_nonneg f1,Int.toNat_of_nonneg f2]) (by simp;omega) (by simp) fun v1=>?_;have hX9:=aV [c.k.toNat,c.cl.toNat,c.rq.toNat] (by simp;omega);rw[List.nil_append]at *
  generalize hX:aE [c.k.toNat,c.cl.toNat,c.rq.toNat]=X at hX9;refine ga env fw aA ?_;refine cY bN [c.id] fun g=>?_;refine ga env fw aA ?_;refine dQ [c.id.toNat] (wnZ f4) (by simp;omega) (by simp at hX9 ⊢;omega) fun v2=>?_;have hY9:=aV [c.id.toNat] (by simp;omega);generalize hY:X++aE [c.id.toNat]=Y;have hYl:Y.length<=40:=by rw[<- hY,List.length_append];simp at hX9 hY9;omega
  refine ga env fw aA ?_;have hE:PW=Y:=by rw[hPW,<- hY,<- hX];simp[aE]
  rw[<- hE];intro B u F;refine(fF b _ PW u F.wr (by omega) hsm.2).mono ?_;rintro e w4 ⟨v4,rfl,ho,hb4,hbl⟩;obtain⟨a4,c4,rfl,_⟩:=hb4.shape;have hsz:=(F.bel hwb rfl).size;have hB:=(F.bel hwb rfl).trans (hbl.mono hsz);refine⟨.sl (fun _=>a4) (fun _=>PW.length) (fun _=>c4),_,rfl,fw.b,F.fG hbl (R':=fun u=>aX u w.heap.size 5 .u8 (.slice a4 PW.length c4) (ints PW)/\Bytes u (.slice a4 PW.length c4) PW) (fun x kx=>?_),?_⟩
  ·have hno:∀j,(Value.slice a4 PW.length c4).ownBlock=some j -> ¬j<u.heap.size:=fun j hj=>Nat.not_lt.2 (ho.lt j hj).1;exact⟨(ho.lower fun j hj=>Nat.le_trans hsz (ho.lt j hj).1).kept kx hno,hb4.kept kx hno⟩
  clear F hbl ho hb4 hB hsz;refine ga env fw aA ?_;refine fa env fw ?_;intro B u F;exact⟨F.bel hwb rfl,_,rfl,F.now.1.1,F.now.1.2⟩
end Go.Proofs.YtgeihgombjbkbaaGreat
namespace Go.Proofs.YtgeihgombjbkbaaGreat
open Go Go.RowKit Go.Maps Go.Proofs.Own
theorem iD {s:St}{B:Nat->Nat}{w:World}{o:Oper}{x:Operand}{v:Value}{l:List Nat}(ho:o.op = .convert 22 9 x)(hx:(s.act B).eval x=v)(hB:Bytes w v l):(execOp (s.act B).eval o).run Tryz.prog w = .ok (.value (.string (eS l))) w:=by
 obtain⟨dst,op,ty,pos,after,gd⟩:=o;simp only at ho;subst ho;simp only[execOp];refine val_run ?_;rw[hx];exact hB.str Tryz.underlying22 Tryz.underlying5 Tryz.underlying9
def TrR (l:List aO):Prop:=∀s ∈ l,0<=s.f/\s.f<=65535/\0<=s.t/\s.t<=4294967295
theorem TrR.sp {l:List aO}(h:TrR l):SpR l:=fun s hs=>by have:=h s hs;omega
def qZ (a:aL):Prop:=mC a.com/\(0<=a.id/\a.id<18446744073709551616)/\TrR a.ts
theorem lO {a:aL}(h:dC a=true):(1<=a.k/\a.k<=20/\0<=a.who/\a.who<=8/\0<=a.to/\a.to<=7 /\ -1125899906842624<=a.n/\a.n<=1125899906842624/\a.ts.length<=16)/\(a.com=fY\/bY a.com=true):=by
 unfold dC aAg at h
 simpa only[Bool.and_eq_true,decide_eq_true_eq,Bool.or_eq_true] using h
theorem iB {c:cI}(h:c=fY\/bY c=true)(hf:mC c)(h0:-9223372036854775808<=c.at')(h1:c.at'<9223372036854775808):(cG c).length<=1215 /\ ∀x ∈ cG c,x<256:=by
 unfold cG;split
 ·exact⟨Nat.zero_le _,nofun⟩
 ·rename_i hn;exact lF (h.resolve_left hn) hf h0 h1
theorem nT {a:aL}(h:dC a=true)(hf:qZ a)(h0:-9223372036854775808<=a.com.at')(h1:a.com.at'<9223372036854775808):(gW a).length<=2000 /\ ∀x ∈ gW a,x<256:=by
 obtain⟨k,kc⟩:=lO h;have hc:=iB kc hf.1 h0 h1;have:=bW (cQ (z:=a.k) (by omega)) (bW (cQ (z:=a.who) (by omega)) (bW (cQ (z:=a.to) (by omega)) (bW (mL (z:=a.n) (by omega) (by omega)) (bW (cQ hf.2.1.2) (bW (bW (cQ (z:=(cG a.com).length) (by omega)) hc) (fW hf.2.2.sp (by omega)))))));exact⟨Nat.le_trans this.1 (by decide),this.2⟩
theorem aIz (b:Nat)(v:Value)(l:List Nat)(a:aL)(A:aT)(w:World)(hw:eA w b v l)(hs:∀u,Kept w u (fun j=>j=b\/v.ownBlock=some j)->bO u a A)(ha:dC a=true)(hf:qZ a)(hl:l.length+3000<=1000000) :
  Calls Tryz.prog 37 #[.pointer (some ⟨b,0,none⟩),.agg (cJ a A).toArray] w (sM b v (l++gW a) w):=by
 have hC0:=hs w (Kept.refl _ _);have F0:FrW b w v (fun u=>bO u a A) v l w []:=FrW.start hw hs;refine enter (F:=FrW b w v (fun u=>bO u a A) v l) (fun _=>0) [.pa (fun _=>⟨b,0,none⟩),.g (cN a A)] [] Tryz.func37 rfl rfl F0 65 rfl ?_;clear F0 hs hw;obtain⟨kb,kc⟩:=lO ha;have hcs:=iB kc hf.1 hC0.com.at0 hC0.com.at1;obtain⟨f1,f2,f3⟩:=hf;have htn:=hC0.n;have hts:=hC0.ts;have hPW:gW a=gW a:=rfl
 conv at hPW=>rhs;unfold gW dL
 generalize gW a=PW at hPW ⊢;refine ga env fw aA ?_;refine cY bN [IntKind.u64.wrap a.k,IntKind.u64.wrap a.who,IntKind.u64.wrap a.to] fun g=>?_;refine ga env fw aA ?_;refine dQ [a.k.toNat,a.who.toNat,a.to.toNat] (by rw[gG (by omega) (by omega),gG (by omega) (by omega),gG (by omega) (by omega)];rfl) (by simp;omega) (by simp;omega) fun v1=>?_;have h9:=aV [a.k.toNat,a.who.toNat,a.to.toNat] (by simp;omega);simp only[List.length_cons,List.length_nil]at h9;refine ga env fw aA ?_;refine cY nL [a.n] fun g=>?_;refine ga env fw aA ?_;refine xQ a.n (by omega) (by omega) (by rw[List.length_append];omega) fun v2=>?_;have h9b:=fH (z:=a.n) (by omega) (by omega);refine ga env fw aA ?_;refine cY bN [a.id] fun g=>?_;refine ga env fw aA ?_;refine dQ [a.id.toNat] (wnZ f2.1) (by simp;omega) (by rw[List.length_append,List.length_append];simp;omega) fun v3=>?_;have h9c:=aV [a.id.toNat] (by simp;omega);simp only[List.length_cons,List.length_nil]at h9c;generalize hX:l++aE [a.k.toNat,a.who.toNat,a.to.toNat]++cL a.n++aE [a.id.toNat]=X;have hXl:X.length<=l.length+60:=by rw[<- hX,List.length_append,List.length_append,List.length_append];omega
 replace hX:l++PW=X++((aC (cG a.com).length++cG a.com)++(aC a.ts.length++bG a.ts)):=by rw[hPW,<- hX];simp[aE]
 clear hPW h9 h9b h9c;refine ga env fw aA ?_;intro B u F;refine(qI a.com A.com u F.now.com).mono ?_;rintro e w2 ⟨rfl,hb⟩;by_cases hz:a.com=fY
 ·rw[decide_eq_true hz];refine⟨.b (.l true),_,rfl,fw.b,F.call hb,?_⟩;clear F hb;have hT:cG a.com = []:=by rw[cG,if_pos hz]
  generalize cG a.com=T at hT hX hcs;refine ga env fw aA ?_;refine aK (.st fun _=>eS T) (fun B u F=>iD rfl (by rw[St.aB]) (by subst hT;exact Bytes.nil u)) ?_;clear hT;refine ga env fw aA ?_;refine aKG T hcs.2 (by have:=hcs.1;omega) fun v4=>?_;have h9:=bB (n:=T.length) (by have:=hcs.1;omega);generalize hY:X++(aC T.length++T)=Y;have hYl:Y.length<=l.length+1300:=by rw[<- hY,List.length_append,List.length_append];have:=hcs.1;omega
  replace hX:l++PW=Y++(aC a.ts.length++bG a.ts):=by rw[hX,<- hY];simp only[List.append_assoc]
  clear hY h9 hcs hXl;refine ga env fw aA ?_;refine cY bN [IntKind.u64.wrap (A.tn:Int)] fun g=>?_;refine ga env fw aA ?_;refine dQ [a.ts.length] (by rw[<- htn];exact wn1 (by omega)) (by simp;omega) (by simp;omega) fun v6=>?_;have h9:=aV [a.ts.length] (by simp;omega);simp only[List.length_cons,List.length_nil]at h9;generalize hZ:Y++aE [a.ts.length]=Z;have hZl:Z.length<=l.length+1400:=by rw[<- hZ,List.length_append];omega
  replace hX:l++PW=Z++bG a.ts:=by rw[hX,<- hZ];simp[aE]
  clear hZ h9 hYl;refine ga env fw aA ?_;refine dI (fun i:WI A.tn=>FrW b w v (fun u=>bO u a A) i.v (Z++bG (a.ts.take i.j))) WI.x (fun i=>[(0,.pa (fun _=>⟨b,0,none⟩)),(51,.sl (fun _=>A.ta) (fun _=>A.tn) (fun _=>A.tc)),(52,.i .i64 (.x fun _=>(A.tn:Int))),(53,.i .i64 (.x fun _=>(i.j:Int)))]) (fun _=>[]) (fun i=>A.tn-i.j) 67 (fun x=>⟨0,v6,x,Nat.zero_le _⟩) (fun _=>rfl) (fun B x=>⟨rfl,rfl,rfl,rfl,trivial⟩) (fun B w1 F x=>by rw[List.take_zero,show bG [] = [] from rfl,List.append_nil];exact FrW.less (L:=[]) F) ?_;intro i J hJ;refine ga env fw aA ?_;refine⟨fun q=>?_,fun q=>?_⟩
  ·have hlt:i.j<A.tn:=by simpa [BE.den,cmpB,IE.den] using q
   clear q;have hlL:i.j<a.ts.length:=by rw[htn];exact hlt
   have htk:=gU hlL;have hsp:=f3 _ (List.getElem_mem hlL);have hln:=dD _ (SpR.take f3.sp i.j);rw[List.length_take,Nat.min_eq_left (Nat.le_of_lt hlL)]at hln;obtain⟨gb,go,he,_⟩:=hts.at (j:=i.j) (by rw[List.length_map];exact hlL);rw[he];have hrg:∀u,bO u a A->u.rangeAt gb (go+i.j*2) (trV a.ts[i.j]):=fun u hu=>by
    have h:=hu.ts;rw[he]at h;have:=h.range (j:=i.j) (by rw[List.length_map];exact hlL)
    rwa [List.getElem_map]at this
   generalize a.ts[i.j]=p at htk hsp hrg;refine ga env fw aA ?_;refine aK (.pa fun _=>⟨gb,go+i.j*2,none⟩) (fun B v F=>aS (e:=112) (n:=2) rfl Tryz.underlying74 (by kernel_rfl) (by rw[St.aB];rfl) (by rw[St.aB];rfl) hlt) ?_;refine ga env fw aA ?_;refine aK (.g [.i .u16 (.x fun _=>p.f),.i .u32 (.x fun _=>p.t)]) (fun B v F=>cC (cs:=trV p) (b:=gb) (off:=go+i.j*2) rfl (by rw[St.aB];rfl) (hrg _ F.now) Tryz.underlying112 rfl (by kernel_rfl)) ?_;refine ga env fw aA ?_;refine cY bN [IntKind.u64.wrap p.f,IntKind.u64.wrap p.t] fun g=>?_;refine ga env fw aA ?_;refine dQ [p.f.toNat,p.t.toNat] (zW hsp.1 (by omega) hsp.2.2.1 (by omega)) (by simp;omega) (by rw[List.length_append];simp;omega) fun v7=>?_;refine ga env fw aA ?_;refine eI hJ (fun x=>⟨i.j+1,v7,x,hlt⟩) (fun _=>rfl) (fun _=>(by omega:A.tn-(i.j+1)<A.tn-i.j)) (fun B x=>⟨rfl,?_,rfl,?_,trivial⟩) (fun B u F x=>?_)
   ·simp only[AV.den,getT,he]
   ·simp only[AV.den,IE.den,getT];rw[wrI hlt (by omega)]
   ·show FrW b w v _ v7 (Z++bG (a.ts.take (i.j+1))) u [];rw[htk,<- List.append_assoc];exact FrW.less (L:=[]) F
  have hje:i.j=A.tn:=by
   have:¬i.j<A.tn:=by simpa [BE.den,cmpB,IE.den] using q
   have:=i.hj;omega
  clear q hJ;rw[hje,List.take_of_length_le (by omega),<- hX];refine ga env fw aA ?_;refine fa env fw ?_;intro B u F;exact⟨rfl,_,F.wr,F.gr⟩
 ·rw[decide_eq_false hz];refine⟨.b (.l false),_,rfl,fw.b,F.call hb,?_⟩;clear F hb;refine ga env fw aA ?_;intro B u F;have hck:=kc.resolve_left hz;have hq:=pK a.com A.com u F.now.com f1;rw[mR,if_pos hck]at hq;refine hq.mono ?_;rintro e w2 ⟨hb,v5,rfl,ho,hB5⟩;have hT:cG a.com=gZ a.com:=by rw[cG,if_neg hz]
  rw[hT]at hX hcs;clear hT hq;generalize gZ a.com=T at hX hcs ho hB5;obtain⟨a5,c5,rfl,_⟩:=hB5.shape;have hno:∀j,(Value.slice a5 T.length c5).ownBlock=some j -> ¬j<u.heap.size:=fun j hj=>Nat.not_lt.2 (ho.lt j hj).1;refine⟨.t [.sl (fun _=>a5) (fun _=>T.length) (fun _=>c5),.i .i64 (.l 0)],_,rfl,fw.b,F.fG hb (R':=fun u=>Bytes u (.slice a5 T.length c5) T) (fun x kx=>hB5.kept kx hno),?_⟩;clear F hb ho hB5 hno;refine ga env fw aA ?_;refine aK (.st fun _=>eS T) (fun B u F=>iD rfl (by rw[St.aB];rfl) F.now.1) ?_;refine jF (fun _ _ F=>F.imp fun _ h=>h.2) ?_;refine ga env fw aA ?_;refine aKG T hcs.2 (by have:=hcs.1;omega) fun v4=>?_;have h9:=bB (n:=T.length) (by have:=hcs.1;omega);generalize hY:X++(aC T.length++T)=Y;have hYl:Y.length<=l.length+1300:=by rw[<- hY,List.length_append,List.length_append];have:=hcs.1;omega
  replace hX:l++PW=Y++(aC a.ts.length++bG a.ts):=by rw[hX,<- hY];simp only[List.append_assoc]
  clear hY h9 hcs hXl;refine ga env fw aA ?_;refine cY bN [IntKind.u64.wrap (A.tn:Int)] fun g=>?_;refine ga env fw aA ?_;refine dQ [a.ts.length] (by rw[<- htn];exact wn1 (by omega)) (by simp;omega) (by simp;omega) fun v6=>?_;have h9:=aV [a.ts.length] (by simp;omega);simp only[List.length_cons,List.length_nil]at h9;generalize hZ:Y++aE [a.ts.length]=Z;have hZl:Z.length<=l.length+1400:=by rw[<- hZ,List.length_append];omega
  replace hX:l++PW=Z++bG a.ts:=by rw[hX,<- hZ];simp[aE]
  clear hZ h9 hYl;refine ga env fw aA ?_;refine dI (fun i:WI A.tn=>FrW b w v (fun u=>bO u a A) i.v (Z++bG (a.ts.take i.j))) WI.x (fun i=>[(0,.pa (fun _=>⟨b,0,none⟩)),(51,.sl (fun _=>A.ta) (fun _=>A.tn) (fun _=>A.tc)),(52,.i .i64 (.x fun _=>(A.tn:Int))),(53,.i .i64 (.x fun _=>(i.j:Int)))]) (fun _=>[]) (fun i=>A.tn-i.j) 67 (fun x=>⟨0,v6,x,Nat.zero_le _⟩) (fun _=>rfl) (fun B x=>⟨rfl,rfl,rfl,rfl,trivial⟩) (fun B w1 F x=>by rw[List.take_zero,show bG [] = [] from rfl,List.append_nil];exact FrW.less (L:=[]) F) ?_;intro i J hJ;refine ga env fw aA ?_;refine⟨fun q=>?_,fun q=>?_⟩
  ·have hlt:i.j<A.tn:=by simpa [BE.den,cmpB,IE.den] using q
   clear q;have hlL:i.j<a.ts.length:=by rw[htn];exact hlt
   have htk:=gU hlL;have hsp:=f3 _ (List.getElem_mem hlL);have hln:=dD _ (SpR.take f3.sp i.j);rw[List.length_take,Nat.min_eq_left (Nat.le_of_lt hlL)]at hln;obtain⟨gb,go,he,_⟩:=hts.at (j:=i.j) (by rw[List.length_map];exact hlL);rw[he];have hrg:∀u,bO u a A->u.rangeAt gb (go+i.j*2) (trV a.ts[i.j]):=fun u hu=>by
    have h:=hu.ts;rw[he]at h;have:=h.range (j:=i.j) (by rw[List.length_map];exact hlL)
    rwa [List.getElem_map]at this
   generalize a.ts[i.j]=p at htk hsp hrg;refine ga env fw aA ?_;refine aK (.pa fun _=>⟨gb,go+i.j*2,none⟩) (fun B v F=>aS (e:=112) (n:=2) rfl Tryz.underlying74 (by kernel_rfl) (by rw[St.aB];rfl) (by rw[St.aB];rfl) hlt) ?_;refine ga env fw aA ?_;refine aK (.g [.i .u16 (.x fun _=>p.f),.i .u32 (.x fun _=>p.t)]) (fun B v F=>cC (cs:=trV p) (b:=gb) (off:=go+i.j*2) rfl (by rw[St.aB];rfl) (hrg _ F.now) Tryz.underlying112 rfl (by kernel_rfl)) ?_;refine ga env fw aA ?_;refine cY bN [IntKind.u64.wrap p.f,IntKind.u64.wrap p.t] fun g=>?_;refine ga env fw aA ?_;refine dQ [p.f.toNat,p.t.toNat] (zW hsp.1 (by omega) hsp.2.2.1 (by omega)) (by simp;omega) (by rw[List.length_append];simp;omega) fun v7=>?_;refine ga env fw aA ?_;refine eI hJ (fun x=>⟨i.j+1,v7,x,hlt⟩) (fun _=>rfl) (fun _=>(by omega:A.tn-(i.j+1)<A.tn-i.j)) (fun B x=>⟨rfl,?_,rfl,?_,trivial⟩) (fun B u F x=>?_)
   ·simp only[AV.den,getT,he]
   ·simp only[AV.den,IE.den,getT];rw[wrI hlt (by omega)]
   ·show FrW b w v _ v7 (Z++bG (a.ts.take (i.j+1))) u [];rw[htk,<- List.append_assoc];exact FrW.less (L:=[]) F
  have hje:i.j=A.tn:=by
   have:¬i.j<A.tn:=by simpa [BE.den,cmpB,IE.den] using q
   have:=i.hj;omega
  clear q hJ;rw[hje,List.take_of_length_le (by omega),<- hX];refine ga env fw aA ?_;refine fa env fw ?_;intro B u F;exact⟨rfl,_,F.wr,F.gr⟩
def mD (s:bU):Prop:=∀a ∈ s.acts,qZ a
def eT (s:bU):List Int:=[s.cfg.s,s.cfg.m,s.cfg.el,s.cfg.bt,s.cfg.ev,s.cfg.rm,s.rounds]
theorem kJ {s:bU}(h:eZ s=true):(∀z ∈ eT s,0<=z/\z<=1048576)/\(0<=s.by'/\s.by'<=1125899906842624/\s.acts.length<=4096) /\ ∀a ∈ s.acts,dC a=true:=by
 unfold eZ lQ svB rfB at h;simp only[Bool.and_eq_true,decide_eq_true_eq,List.all_eq_true]at h;refine⟨fun z hz=>?_,by omega,h.2.2⟩;simp only[eT,List.mem_cons,List.not_mem_nil,or_false]at hz;omega
theorem rE (s:bU):aJm s.cfg s.rounds=aE ((eT s).map Int.toNat):=by simp[aJm,eT,aE]
theorem nU {l:List aL}{j:Nat}(h:j<l.length):bM (l.take (j+1))=bM (l.take j)++gW l[j]:=by
 rw[List.take_succ_eq_append_getElem h];unfold bM;simp only[List.flatMap_append,List.flatMap_cons,List.flatMap_nil,List.append_nil]
theorem nV (l:List aL)(j:Nat):(bM (l.take j)).length<=(bM l).length:=by
 have:bM l=bM (l.take j)++bM (l.drop j):=by
  unfold bM;rw[<- List.flatMap_append,List.take_append_drop]
 rw[this,List.length_append];omega
theorem sQ {l:List aL}(h:∀a ∈ l,∀x ∈ gW a,x<256):∀x ∈ bM l,x<256:=fun x hx=>by
 obtain⟨a,ha,hx⟩:=List.mem_flatMap.1 hx;exact h a ha x hx
theorem gD {ns:List Nat}(h:∀n ∈ ns,n<=1048576):(aE ns).length<=9*ns.length /\ ∀c ∈ aE ns,c<256:=by
 refine⟨aV ns fun n hn=>by have:=h n hn;omega,fun c hc=>?_⟩;obtain⟨n,hn,hc⟩:=List.mem_flatMap.1 hc;have:=h n hn;exact iI (by omega) c hc
def mS (s:bU)(w:World):Ending->World->Prop:=if eZ s=true then (if (fA s).length<=65536 then fun e w'=>Below w.heap.size w w' /\ ∃v,e = .returned (.tuple #[v,.int .i64 0])/\Bytes w' v (frP 6 (fA s)) else fun e w'=>Below w.heap.size w w'/\e = .returned (.tuple #[.slice none 0 0,.int .i64 21]))
 else fun e w'=>Below w.heap.size w w'/\e = .returned (.tuple #[.slice none 0 0,.int .i64 2])
theorem zX (k:Nat)(v:Value)(l:List Nat)(w:World)(hB:Bytes w v l)(hk0:k≠0)(hlen:65536<l.length) :
  Calls Tryz.prog 38 #[.int .u8 k,v] w fun e w'=>e = .returned (.tuple #[.slice none 0 0,.int .i64 21])/\Below w.heap.size w w':=by
 obtain⟨a,c,rfl,_⟩:=hB.shape;have F0:Fe 0 (fun v=>Below w.heap.size w v) w []:=Fe.start fun _ bv=>bv;refine enter (fun _=>0) [.i .u8 (.x fun _=>(k:Int)),.sl (fun _=>a) (fun _=>l.length) (fun _=>c)] [] Tryz.func38 rfl rfl F0 28 rfl ?_;refine ga env (Fe.frm 0 _) aA ?_;refine⟨fun q=>absurd (show (k:Int)=0 by simpa [BE.den,cmpB,IE.den] using q) (by omega),fun q=>?_⟩;clear q;refine ga env (Fe.frm 0 _) aA ?_;refine⟨fun q=>?_,fun q=>absurd (show ¬(l.length:Int) > 65536 by simpa [BE.den,cmpB,IE.den] using q) (by omega)⟩;refine ga env (Fe.frm 0 _) aA ?_;refine fa env (Fe.frm 0 _) ?_;intro B u F;exact⟨rfl,F.now⟩
theorem iL (s:bU)(L:List (aL × aT))(a:Option Addr)(n c:Nat)(w:World)(h:aN w s L a n c)(hf:mD s)(hlen:eZ s=true->(fA s).length<=900000):Calls Tryz.prog 11 #[.agg (gR s a n c).toArray] w (mS s w):=by
 have hC0:=h;have F0:Fr (fun _=>False) w w [] (fun u=>aN u s L a n c):=Fr.zero w nofun fun u ku=>h.below (ku.below (Nat.le_refl _) nofun);refine enter (F:=fun u K=>Fr (fun _=>False) w u K (fun u=>aN u s L a n c)) (fun _=>0) [.g (bH s a n c)] [] Tryz.func11 rfl rfl F0 63 rfl ?_;clear F0 h;refine ga env (Fr.frm _ _ _) aA ?_;intro B u F;refine(lX s L a n c u F.r).mono ?_;rintro e w2 ⟨rfl,hb⟩;cases hok:eZ s with
 | false =>
  refine⟨.b (.l false),_,rfl,(Fr.frm _ _ _).b,F.call hb,?_⟩;clear F hb;refine ga env (Fr.frm _ _ _) aA ?_;refine fa env (Fr.frm _ _ _) ?_;intro B u F;rw[mS,if_neg (by rw[hok];decide)];exact⟨F.bel,rfl⟩
 | true =>
 refine⟨.b (.l true),_,rfl,(Fr.frm _ _ _).b,F.call hb,?_⟩;clear F hb;replace hlen:=hlen hok;obtain⟨g1,g2,g3⟩:=kJ hok;refine gn 11 env (Fr.frm _ _ _) aA ?_;refine lL 1 (fun B u F=>⟨FrW (B 1) w (.slice none 0 0) (fun u=>aN u s L a n c) (.slice none 0 0) [],lG (L:=[(B 0,_)]) F,?_⟩);have hwb:w.heap.size<=B 1:=(F.rng (B 1,_) (List.mem_of_getElem? (i:=1) rfl)).1;clear F;generalize B 1=b at hwb ⊢;clear B u w2;have hWr:mS s w=mS s w:=rfl
 conv at hWr=>rhs;unfold mS
 rw[if_pos hok]at hWr;rw[hWr];have hln:=hC0.acts.ln;have heq:=hC0.eq;have hsl:s.acts.length=n:=by rw[heq,List.length_map];exact hln
 have hn4:n<=4096:=by omega
 have hPW:fA s=aE ((eT s).map Int.toNat)++(cL s.by'++(aC s.acts.length++bM s.acts)):=by rw[fA,rE]
 have hlt256:∀x ∈ fA s,x<256:=by
  rw[hPW];intro x hx;rcases List.mem_append.1 hx with hx|hx
  ·exact(gD (fun m hm=>by obtain⟨z,hz,rfl⟩:=List.mem_map.1 hm;have:=g1 z hz;omega)).2 x hx
  rcases List.mem_append.1 hx with hx|hx
  ·exact rL (by omega) (by omega) x hx
  rcases List.mem_append.1 hx with hx|hx
  ·exact iI (by omega) x hx
  ·refine sQ (fun q hq=>?_) x hx;have hq2:=hq;rw[heq]at hq2;obtain⟨p,hp,rfl⟩:=List.mem_map.1 hq2;have:=(hC0.acts.each p hp).com;exact(nT (g3 _ hq) (hf _ hq) this.at0 this.at1).2
 generalize fA s=PW at hPW hlen hlt256 ⊢;clear hWr hok;have h9:=gD (ns:=(eT s).map Int.toNat) (fun m hm=>by obtain⟨z,hz,rfl⟩:=List.mem_map.1 hm;have:=g1 z hz;omega);have hcl:((eT s).map Int.toNat).length=7:=rfl;refine ga env fw aA ?_;refine cY fI (eT s) fun g=>?_;refine ga env fw aA ?_;refine dI (fun i:WI 7=>FrW b w (.slice none 0 0) (fun u=>Wn b (.slice none 0 0) .i64 (eT s) g u/\aN u s L a n c) i.v (aE (((eT s).map Int.toNat).take i.j))) WI.x (fun i=>[(1,.p 0 0),(4,.pa (fun _=>⟨b,0,none⟩)),(29,.sl (fun _=>some ⟨g,0,none⟩) (fun _=>7) (fun _=>7)),(30,.i .i64 (.x fun _=>7)),(31,.i .i64 (.x fun _=>(i.j:Int)))]) (fun _=>[bH s a n c]) (fun i=>7-i.j) 64 (fun x=>⟨0,.slice none 0 0,x,Nat.zero_le _⟩) (fun _=>rfl) (fun B x=>⟨rfl,rfl,rfl,rfl,rfl,trivial⟩) (fun B w1 F x=>FrW.less (L:=[(B 0,_)]) F) ?_;intro i J hJ;refine ga env fw aA ?_;refine⟨fun q=>?_,fun q=>?_⟩
 ·have hlt:i.j<7:=by have q:decide ((i.j:Int)<7)=true:=q;simp only[decide_eq_true_eq]at q;omega
  clear q;have hlt2:i.j<(eT s).length:=hlt;have htk:aE (((eT s).map Int.toNat).take (i.j+1))=aE (((eT s).map Int.toNat).take i.j)++aE [(eT s)[i.j].toNat]:=by
   rw[List.take_succ_eq_append_getElem (by rw[List.length_map];exact hlt2)];simp only[aE,List.flatMap_append,List.getElem_map]
  have hz:=g1 _ (List.getElem_mem hlt2);have hrd:∀u,Wn b (.slice none 0 0) .i64 (eT s) g u->u.cell? ⟨g,0+i.j*1,none⟩=some (.int .i64 (eT s)[i.j]):=fun u hu=>by
   obtain⟨a',c',e,hh⟩:=hu.1;cases e;obtain⟨b',o',e,hh⟩:=hh i.j hlt2;cases e;rw[Nat.mul_one];exact hh
  have hln:=(gD (ns:=((eT s).map Int.toNat).take i.j) (fun m hm=>by obtain⟨z,hz,rfl⟩:=List.mem_map.1 (List.mem_of_mem_take hm);have:=g1 z hz;omega)).1;rw[List.length_take,hcl,Nat.min_eq_left (Nat.le_of_lt hlt)]at hln;generalize (eT s)[i.j]=z at htk hz hrd;refine ga env fw aA ?_;refine aK (.pa fun _=>⟨g,0+i.j*1,none⟩) (fun B v F=>aS (e:=3) (n:=1) rfl Tryz.underlying93 (by kernel_rfl) (by rw[St.aB];rfl) (by rw[St.aB];rfl) hlt) ?_;refine ga env fw aA ?_;refine aK (.i .i64 (.x fun _=>z)) (fun B u F=>fB aH (b:=g) (off:=0+i.j*1) rfl (by rw[St.aB];rfl) rfl rfl (hrd _ F.now.1)) ?_;refine ga env fw aA ?_;refine cY bN [IntKind.u64.wrap z] fun g2=>?_;refine ga env fw aA ?_;refine dQ [z.toNat] (aOH hz.1 (by omega)) (by simp;omega) (by simp;omega) fun v3=>?_;refine ga env fw aA ?_;refine eI hJ (fun x=>⟨i.j+1,v3,x,hlt⟩) (fun _=>rfl) (fun _=>(by omega:7-(i.j+1)<7-i.j)) (fun B x=>⟨rfl,rfl,rfl,rfl,?_,trivial⟩) (fun B u F x=>?_)
  ·simp only[AV.den,IE.den,getT];rw[wrI hlt (by omega)]
  ·show FrW b w _ _ v3 (aE (((eT s).map Int.toNat).take (i.j+1))) u [(B 0,_)];rw[htk];exact FrW.less (L:=[(B 0,_)]) F
 have hje:i.j=7:=by
  have q:decide ((i.j:Int)<7)=false:=q;simp only[decide_eq_false_iff_not]at q;have:=i.hj;omega
 clear q hJ;rw[hje,List.take_of_length_le (by rw[hcl];omega)];clear hje;generalize aE ((eT s).map Int.toNat)=X at h9 hPW ⊢;rw[hcl]at h9;refine jF (fun _ _ F=>F.imp fun _ h=>h.2) ?_;refine ga env fw aA ?_;refine cY nL [s.by'] fun g=>?_;refine ga env fw aA ?_;refine xQ s.by' (by omega) (by omega) (by omega) fun v4=>?_;have h9b:=fH (z:=s.by') (by omega) (by omega);refine ga env fw aA ?_;refine cY bN [IntKind.u64.wrap (n:Int)] fun g=>?_;refine ga env fw aA ?_;refine dQ [n] (wn1 (by omega)) (by simp;omega) (by rw[List.length_append];simp;omega) fun v5=>?_;generalize hZ:X++cL s.by'++aE [n]=Z;replace hPW:PW=Z++bM s.acts:=by rw[hPW,<- hZ,hsl];simp[aE]
 clear hZ h9 h9b;refine ga env fw aA ?_;refine dI (fun i:WI n=>FrW b w (.slice none 0 0) (fun u=>aN u s L a n c) i.v (Z++bM (s.acts.take i.j))) WI.x (fun i=>[(4,.pa (fun _=>⟨b,0,none⟩)),(51,.sl (fun _=>a) (fun _=>n) (fun _=>c)),(52,.i .i64 (.x fun _=>(n:Int))),(53,.i .i64 (.x fun _=>(i.j:Int)))]) (fun _=>[]) (fun i=>n-i.j) 64 (fun x=>⟨0,v5,x,Nat.zero_le _⟩) (fun _=>rfl) (fun B x=>⟨rfl,rfl,rfl,rfl,trivial⟩) (fun B w1 F x=>by rw[List.take_zero,show bM [] = [] from rfl,List.append_nil];exact FrW.less (L:=[]) F) ?_;intro i J hJ;refine ga env fw aA ?_;refine⟨fun q=>?_,fun q=>?_⟩
 ·have hlt:i.j<n:=by simpa [BE.den,cmpB,IE.den] using q
  clear q;have hlL:i.j<L.length:=by rw[hln];exact hlt
  have hlS:i.j<s.acts.length:=by rw[hsl];exact hlt
  have htk:=nU hlS;have hmem:=List.getElem_mem hlS;have he:s.acts[i.j]=L[i.j].1:=by simp only[heq,List.getElem_map]
  rw[he]at htk hmem;have hle:=nV s.acts i.j;have hpm:=List.getElem_mem hlL;obtain⟨gb,go,ea⟩:=hC0.acts.base hlt;have hrg:∀u,aN u s L a n c->u.rangeAt gb (go+i.j*19) (cJ L[i.j].1 L[i.j].2):=fun u hu=>by
   have h:=hu.acts;rw[ea]at h;exact h.range hlL
  generalize L[i.j]=p at htk hmem hpm hrg;rw[ea];refine ga env fw aA ?_;refine aK (.pa fun _=>⟨gb,go+i.j*19,none⟩) (fun B v F=>aS (e:=76) (n:=19) rfl Tryz.underlying26 (by kernel_rfl) (by rw[St.aB];rfl) (by rw[St.aB];rfl) hlt) ?_;refine ga env fw aA ?_;refine aK (.g (cN p.1 p.2)) (fun B v F=>cC (cs:=cJ p.1 p.2) (b:=gb) (off:=go+i.j*19) rfl (by rw[St.aB];rfl) (hrg _ (ea ▸ F.now)) Tryz.underlying76 rfl (by kernel_rfl)) ?_;refine ga env fw aA ?_;intro B u F;refine(aIz b _ (Z++bM (s.acts.take i.j)) p.1 p.2 u F.wr (fun x kx=>(F.s1 x (kx.mono fun j _ hj=>hj.elim .inl fun hj=>.inr (.inl hj))).acts.each _ hpm) (g3 _ hmem) (hf _ hmem) (by rw[hPW,List.length_append]at hlen;rw[List.length_append];omega)).mono ?_;rintro e w3 ⟨rfl,v6,hw6,hg6⟩;refine⟨.t [],_,rfl,fw.b,F.put hw6 hg6,?_⟩;clear F hw6 hg6;refine ga env fw aA ?_;refine eI hJ (fun x=>⟨i.j+1,v6,x,hlt⟩) (fun _=>rfl) (fun _=>(by omega:n-(i.j+1)<n-i.j)) (fun B x=>⟨rfl,?_,rfl,?_,trivial⟩) (fun B u F x=>?_)
  ·simp only[AV.den,getT,ea]
  ·simp only[AV.den,IE.den,getT];rw[wrI hlt (by omega)]
  ·show FrW b w _ (fun u=>aN u s L a n c) v6 (Z++bM (s.acts.take (i.j+1))) u [];rw[htk,<- List.append_assoc];exact ea ▸ FrW.less (L:=[]) F
 have hje:i.j=n:=by
  have:¬i.j<n:=by simpa [BE.den,cmpB,IE.den] using q
  have:=i.hj;omega
 clear q hJ;rw[hje,List.take_of_length_le (by omega),<- hPW];clear hje;refine ga env fw aA ?_;intro B u F;refine(fF b _ PW u F.wr (by omega) hlt256).mono ?_;rintro e w4 ⟨v7,rfl,ho,hb4,hbl⟩;obtain⟨a4,c4,rfl,_⟩:=hb4.shape;have hno:∀j,(Value.slice a4 PW.length c4).ownBlock=some j -> ¬j<u.heap.size:=fun j hj=>Nat.not_lt.2 (ho.lt j hj).1;refine⟨.sl (fun _=>a4) (fun _=>PW.length) (fun _=>c4),_,rfl,fw.b,F.fG hbl (R':=fun u=>Bytes u (.slice a4 PW.length c4) PW) (fun x kx=>hb4.kept kx hno),?_⟩;clear F hbl ho hb4 hno;refine ga env fw aA ?_;intro B u F;by_cases h6:PW.length<=65536
 ·rw[if_pos h6];refine(aJc 6 _ PW u F.now.1 (by decide) (by decide) h6).mono ?_;rintro e w5 ⟨v8,rfl,hb8,hbl,hno8⟩;have hl8:(frP 6 PW).length=(frP 6 PW).length:=rfl;generalize frP 6 PW=PF at hb8 hl8 ⊢;obtain⟨a8,c8,rfl,_⟩:=hb8.shape;refine⟨.t [.sl (fun _=>a8) (fun _=>PF.length) (fun _=>c8),.i .i64 (.l 0)],_,rfl,fw.b,F.fG hbl (R':=fun u=>Bytes u (.slice a8 PF.length c8) PF) (fun x kx=>hb8.kept kx fun j hj=>Nat.not_lt.2 (hno8 j hj)),?_⟩;clear F hbl hb8 hno8;refine ga env fw aA ?_;refine fa env fw ?_;intro B u F;exact⟨F.bel hwb rfl,_,rfl,F.now.1⟩
 ·rw[if_neg h6];refine(zX 6 _ PW u F.now.1 (by decide) (by omega)).mono ?_;rintro e w5 ⟨rfl,hbl⟩;refine⟨.t [.v (.slice none 0 0),.i .i64 (.l 21)],_,rfl,fw.b,F.call hbl,?_⟩;clear F hbl;refine ga env fw aA ?_;refine fa env fw ?_;intro B u F;exact⟨F.bel hwb rfl,rfl⟩
end Go.Proofs.YtgeihgombjbkbaaGreat
namespace Go.Proofs.YtgeihgombjbkbaaGreat
open Go.RowKit Go.Maps Go.Proofs.Own

theorem aAn (n:Nat):beN (bL n)=n:=by
 induction n using Nat.strongRecOn with
 | _ n ih =>
  by_cases h:n=0
  ·subst h;rw[eO];rfl
  ·rw[dY h,sW,ih _ (by omega)];omega
theorem wV {n:Nat}(h:n≠0):bL n ≠ []:=by rw[dY h];simp
theorem yD (n:Nat)(h:n≠0):(bL n).getD 0 0≠0:=by
 induction n using Nat.strongRecOn with
 | _ n ih =>
  rw[dY h];by_cases h2:n / 256=0
  ·rw[h2,eO];simp;omega
  ·have h3:=ih _ (by omega) h2;have:=wV h2;cases hd:bL (n / 256) with
   | nil=>exact absurd hd this
   | cons x xs=>rw[hd]at h3;simpa using h3
theorem kH (n:Nat)(r:List Nat):aC n++r=(bL n).length::(bL n++r):=rfl
theorem oL (n:Nat)(r:List Nat):mN (aC n++r)=n:=by
 rw[kH];unfold mN;rw[List.drop_succ_cons,List.drop_zero,List.getD_cons_zero,List.take_left,aAn]
theorem eW {n most:Nat}(r:List Nat)(hn:(n:Int)<18446744073709551616)(hm:n<=most):eD most (aC n++r):=by
 refine⟨?_,by rw[oL];exact hm⟩;have h8:=eG hn;rw[kH];unfold eJ;rw[List.getD_cons_zero,List.getD_cons_succ,List.length_cons,List.length_append];rintro(h|h|⟨h1,h2⟩)
 ·omega
 ·omega
 ·have hz:n≠0:=by rintro rfl;rw[eO]at h1;exact absurd h1 (by decide)
  have:=yD n hz;cases hd:bL n with
  | nil=>exact absurd hd (wV hz)
  | cons x xs=>rw[hd]at this h2;exact this (by simpa using h2)
theorem jE {n most:Nat}(r:List Nat)(hn:(n:Int)<18446744073709551616)(hm:n<=most):aF most (aC n++r)=n:=by
 unfold aF;rw[if_pos (eW r hn hm),oL]
theorem jD {n most:Nat}(r:List Nat)(hn:(n:Int)<18446744073709551616)(hm:n<=most):fT most (aC n++r)=r:=by
 unfold fT;rw[if_pos (eW r hn hm),kH,List.getD_cons_zero,List.drop_succ_cons,List.drop_left]
theorem jC {n most:Nat}(r:List Nat)(hn:(n:Int)<18446744073709551616)(hm:n<=most):mM most (aC n++r)=false:=by
 unfold mM;rw[if_pos (eW r hn hm)]
theorem kD {most:Nat}(d r:List Nat)(hd:d.length<=most)(hm:most<=1000000):aF most (aC d.length++(d++r))=d.length/\fT most (aC d.length++(d++r))=d++r/\fN most (aC d.length++(d++r)):=by
 have h1:=jE (most:=most) (d++r) (n:=d.length) (by omega) hd;have h2:=jD (most:=most) (d++r) (n:=d.length) (by omega) hd;refine⟨h1,h2,?_⟩;unfold fN;rw[h1,h2,List.length_append];omega
theorem vF {most:Nat}(d r:List Nat)(hd:d.length<=most)(hm:most<=1000000):fR most (aC d.length++(d++r))=d:=by
 obtain⟨h1,h2,h3⟩:=kD d r hd hm;unfold fR;rw[if_pos h3,h1,h2,List.take_left]
theorem vE {most:Nat}(d r:List Nat)(hd:d.length<=most)(hm:most<=1000000):nB most (aC d.length++(d++r))=r:=by
 obtain⟨h1,h2,h3⟩:=kD d r hd hm;unfold nB;rw[if_pos h3,h1,h2,List.drop_left]
theorem vD {most:Nat}(d r:List Nat)(hd:d.length<=most)(hm:most<=1000000):nA most (aC d.length++(d++r))=false:=by
 obtain⟨h1,h2,h3⟩:=kD d r hd hm;unfold nA;rw[if_pos h3,jC (d++r) (by omega) hd];rfl
theorem pT (n:Nat):be3 (n / 65536) (n / 256 % 256) (n % 256)=n:=by unfold be3;omega
theorem jR (k:Nat)(l r:List Nat):∃s,s=iT ([102,k,l.length / 65536,l.length / 256 % 256,l.length % 256]++l) /\
  frP k l++r=102::k::(l.length / 65536)::(l.length / 256 % 256)::(l.length % 256)::(l++(s / 65536)::(s / 256 % 256)::(s % 256)::r):=by
 refine⟨_,rfl,?_⟩;unfold frP kV;simp
theorem kF (k:Nat)(l r:List Nat):frN (frP k l++r)=l.length:=by
 obtain⟨s,_,e⟩:=jR k l r;rw[e];exact pT l.length
theorem vV (k:Nat)(l r:List Nat):(frP k l++r).getD 1 0=k:=by
 obtain⟨s,_,e⟩:=jR k l r;rw[e];rfl
theorem uZ {k:Nat}{l:List Nat}(r:List Nat)(hk:k≠0)(hl:l.length<=65536):cX (frP k l++r)=0:=by
 have hN:=kF k l r;obtain⟨s,_,e⟩:=jR k l r;unfold cX;rw[hN,e,if_neg (by simp),if_neg (by simp),if_neg (by simp),if_neg (by simpa using hk),if_neg (by simp),if_neg (by omega),if_neg (by simp)]
theorem aH2 (A B:List Nat)(j:Nat):(A++B).getD (A.length+j) 0=B.getD j 0:=by
 rw[List.getD_eq_getElem?_getD,List.getD_eq_getElem?_getD,List.getElem?_append_right (by omega),Nat.add_sub_cancel_left]
theorem vC {k:Nat}{l:List Nat}(r:List Nat)(hk:k≠0)(hl:l.length<=65536):iK (frP k l++r)=0:=by
 have hN:=kF k l r;have hS:=uZ (k:=k) (l:=l) r hk hl;obtain⟨s,hs,e⟩:=jR k l r;unfold iK;rw[if_neg (by simp[hS]),hN,if_pos];have e1:(frP k l++r).take (l.length+8)=([102,k,l.length / 65536,l.length / 256 % 256,l.length % 256]++l) ++ [s / 65536,s / 256 % 256,s % 256]:=by
  have:frP k l++r=(([102,k,l.length / 65536,l.length / 256 % 256,l.length % 256]++l) ++ [s / 65536,s / 256 % 256,s % 256])++r:=by rw[e];simp
  rw[this];exact List.take_left' (by simp)
 have hlen:([102,k,l.length / 65536,l.length / 256 % 256,l.length % 256]++l).length=l.length+5:=by simp
 rw[e1];unfold kN;rw[List.take_left' hlen,<- hs];have g:∀j,(([102,k,l.length / 65536,l.length / 256 % 256,l.length % 256]++l) ++ [s / 65536,s / 256 % 256,s % 256]).getD (l.length+5+j) 0 = [s / 65536,s / 256 % 256,s % 256].getD j 0:=by
  intro j;rw[<- hlen];exact aH2 _ _ j
 have g0:=g 0;rw[Nat.add_zero]at g0;rw[g0,g 1,g 2];exact(pT s).symm
theorem rJ (k:Nat)(l r:List Nat):gH (frP k l++r)=l:=by
 have hN:=kF k l r;obtain⟨s,_,e⟩:=jR k l r;unfold gH;rw[hN,e];have:102::k::(l.length / 65536)::(l.length / 256 % 256)::(l.length % 256)::(l++(s / 65536)::(s / 256 % 256)::(s % 256)::r) = [102,k,l.length / 65536,l.length / 256 % 256,l.length % 256]++(l++((s / 65536)::(s / 256 % 256)::(s % 256)::r)):=rfl;rw[this,<- List.append_assoc,List.take_left' (by simp)];rfl
theorem oH (k:Nat)(l:List Nat):(frP k l).length=l.length+8:=by unfold frP;rw[jA];simp
theorem pG {k:Nat}{l:List Nat}(hk:k≠0)(hl:l.length<=65536):gJ (frP k l):=by
 have h1:=vC (k:=k) (l:=l) [] hk hl;have h2:=kF k l [];rw[List.append_nil]at h1 h2;exact⟨h1,by rw[h2,oH]⟩
theorem eK {z:Int}{m:Nat}(r:List Nat)(b:Bool)(h0:0<=z)(h1:z<=m)(hm:(m:Int)<18446744073709551616):((aF m (aC z.toNat++r):Nat):Int)=z/\nS m (aC z.toNat++r,b)=(r,b):=by
 have hn:((z.toNat:Nat):Int)<18446744073709551616:=by omega
 have hm':z.toNat<=m:=by omega
 refine⟨by rw[jE r hn hm',Int.toNat_of_nonneg h0],?_⟩;unfold nS;simp only;rw[jD r hn hm',jC r hn hm',Bool.or_false]
theorem aI7 {n:Nat}(r:List Nat)(hn:(n:Int)<18446744073709551616):unm (aC n++r)=aC n++r:=by
 have:=eG hn;show (bL n).length % 128::(bL n++r)=_;rw[Nat.mod_eq_of_lt (by omega)];rfl
theorem xB {z:Int}(r:List Nat)(b:Bool)(h0:-9223372036854775808<=z)(h1:z<9223372036854775808):iY (cL z++r)=z/\iS (cL z++r,b)=(r,b):=by
 unfold cL;split
 ·have hn:(((-1-z).toNat:Nat):Int)<18446744073709551616:=by omega
  have hm:(-1-z).toNat<=jO:=by unfold jO;omega
  have h8:=eG hn;have hu:unm ((128+(bL (-1-z).toNat).length)::bL (-1-z).toNat++r)=aC (-1-z).toNat++r:=by
   show (128+(bL (-1-z).toNat).length) % 128::(bL (-1-z).toNat++r)=_;rw[show (128+(bL (-1-z).toNat).length) % 128=(bL (-1-z).toNat).length by omega];rfl
  refine⟨?_,?_⟩
  ·unfold iY vX;rw[hu,if_pos (eW r hn hm),jE r hn hm,List.cons_append,List.getD_cons_zero,decide_eq_true (by omega),if_pos rfl];omega
  ·unfold iS yK aH5;simp only;rw[hu,jD r hn hm,jC r hn hm,Bool.or_false]
 ·have hn:((z.toNat:Nat):Int)<18446744073709551616:=by omega
  have hm:z.toNat<=jO:=by unfold jO;omega
  have h8:=eG hn;have hu:=aI7 r hn;refine⟨?_,?_⟩
  ·unfold iY vX;rw[hu,if_pos (eW r hn hm),jE r hn hm,kH,List.getD_cons_zero,decide_eq_false (by omega),if_neg (by decide)];omega
  ·unfold iS yK aH5;simp only;rw[hu,jD r hn hm,jC r hn hm,Bool.or_false]
def SpB (m1 m2:Nat)(l:List aO):Prop:=∀s ∈ l,0<=s.f/\s.f<=m1/\0<=s.t/\s.t<=m2
theorem aMF {m1 m2:Nat}(hm1:(m1:Int)<18446744073709551616)(hm2:(m2:Int)<18446744073709551616):∀(l:List aO) (r:List Nat) (b:Bool),SpB m1 m2 l->prS m1 m2 l.length (bG l++r,b)=(l,(r,b))
 | [],r,b,_=>rfl
 | s::l,r,b,h=>by
  have hs:=h s (List.mem_cons_self ..);have e:bG (s::l)++r=aC s.f.toNat++(aC s.t.toNat++(bG l++r)):=by simp[bG,prW]
  have h1:=eK (m:=m1) (aC s.t.toNat++(bG l++r)) b hs.1 hs.2.1 hm1;have h2:=eK (m:=m2) (bG l++r) b hs.2.2.1 hs.2.2.2 hm2;rw[List.length_cons,prS,e];simp only;rw[h1.1,h1.2,h2.2,aMF hm1 hm2 l r b fun x hx=>h x (List.mem_cons_of_mem _ hx)];simp only;rw[h2.1]
theorem xL {M m1 m2:Nat}{l:List aO}(r:List Nat)(b:Bool)(hl:l.length<=M)(hM:(M:Int)<18446744073709551616)(hm1:(m1:Int)<18446744073709551616)(hm2:(m2:Int)<18446744073709551616)(h:SpB m1 m2 l):prS m1 m2 (aF M (dL l++r)) (nS M (dL l++r,b))=(l,(r,b)):=by
 have h1:=eK (z:=(l.length:Int)) (m:=M) (bG l++r) b (by omega) (by omega) hM;rw[Int.toNat_natCast]at h1;have e:dL l++r=aC l.length++(bG l++r):=by rw[dL,List.append_assoc]
 rw[e,h1.2,show aF M (aC l.length++(bG l++r))=l.length by exact Int.ofNat.inj h1.1];exact aMF hm1 hm2 l r b h
theorem aIS:∀ {l:List aO}{e:Int},rowE e l=true->SpB HZ HZ l
 | [],_,_=>nofun
 | s::l,e,h=>by
  rw[rowE,Bool.and_eq_true,Bool.and_eq_true]at h;have h1:=h.1.1;unfold fQ at h1;simp only[Bool.and_eq_true,decide_eq_true_eq]at h1;intro x hx;rcases List.mem_cons.1 hx with rfl|hx
  ·unfold HZ;omega
  ·exact aIS h.2 x hx
theorem uP {l:List aO}(h:bI l=0):SpB HZ HZ l/\l.length<=32:=by
 unfold bI at h;split at h
 ·cases h
 ·split at h
  ·exact⟨aIS (by assumption),by omega⟩
  ·cases h
theorem aAq {k:fC}(h:bV k=0):(0<=k.o/\k.o<604800)/\(SpB HZ HZ k.w/\k.w.length<=32)/\(SpB HZ HZ k.c/\k.c.length<=32):=by
 unfold bV at h;split at h
 ·cases h
 rename_i h1;split at h
 ·rename_i h2;exact absurd h h2
 rename_i h2;have h2:bJ k.w=0:=by simpa using h2
 refine⟨by omega,uP ?_,uP h⟩;unfold bJ at h2;split at h2
 ·assumption
 ·exact h2
theorem tQ:((HZ:Nat):Int)<18446744073709551616:=by unfold HZ;decide
theorem aMl {k:fC}(r:List Nat)(h:bV k=0):gX (jN k++r,false)=(k,(r,false),true):=by
 obtain⟨h0,h1,h2⟩:=aAq h;have i1:=xB (z:=k.o) (dL k.w++(dL k.c++r)) false (by omega) (by omega);have i2:=xL (M:=32) (m1:=HZ) (m2:=HZ) (dL k.c++r) false h1.2 (by decide) tQ tQ h1.1;have i3:=xL (M:=32) (m1:=HZ) (m2:=HZ) r false h2.2 (by decide) tQ tQ h2.1;have e:jN k++r=cL k.o++(dL k.w++(dL k.c++r)):=by rw[jN];simp only[List.append_assoc]
 have hS:jK (jN k++r,false)=(k,(r,false)):=by
  unfold jK spS;simp only;rw[e,i1.1,i1.2];simp only;rw[i2];simp only;rw[i3]
 unfold gX;rw[hS,if_neg (by simp[h])]
theorem aMo {k:fS}(r:List Nat)(h:dW k=true):gL (iW k++r,false)=(k,(r,false),true):=by
 have h':=h;unfold dW at h';simp only[Bool.and_eq_true,decide_eq_true_eq,List.all_eq_true]at h';obtain⟨g1,g2,g3,g4,g5⟩:=h';have hl:SpB HZ 7 k.l:=fun s hs=>by
  have:=g5 s hs;unfold dX at this;simp only[Bool.and_eq_true,decide_eq_true_eq]at this;unfold HZ;omega
 have e:iW k++r=aC k.c.toNat++(dL k.l++(aC k.r.toNat++(aC k.b.toNat++r))):=by rw[iW];simp only[List.append_assoc]
 have i1:=eK (z:=k.c) (m:=7) (dL k.l++(aC k.r.toNat++(aC k.b.toNat++r))) false (by omega) (by omega) (by decide);have i2:=xL (M:=6) (m1:=HZ) (m2:=7) (aC k.r.toNat++(aC k.b.toNat++r)) false (by omega) (by decide) tQ (by decide) hl;have i3:=eK (z:=k.r) (m:=8) (aC k.b.toNat++r) false (by omega) (by omega) (by decide);have i4:=eK (z:=k.b) (m:=1048576) r false (by omega) (by omega) (by decide);have hS:jL (iW k++r,false)=(k,(r,false)):=by
  unfold jL lvS;simp only;rw[e,i1.1,i1.2];simp only;rw[i2];simp only;rw[i3.1,i3.2];simp only;rw[i4.1,i4.2]
 unfold gL;rw[hS,if_neg (by simp[h])]
theorem aMn {c:cI}(h:bY c=true)(hl:(gZ c).length<=2048)(hq:0<=c.cl/\0<=c.rq/\c.rq<18446744073709551616/\0<=c.id/\c.id<18446744073709551616)(ha:-9223372036854775808<=c.at'/\c.at'<9223372036854775808):lE (gZ c)=(c,0):=by
 obtain⟨k1,k2⟩:=nJ h;have hr:=h;unfold bY at hr;simp only[Bool.and_eq_true,decide_eq_true_eq]at hr;obtain⟨_,hcl,hkp,hr⟩:=hr;obtain⟨f1,f2,f3,f4,f5⟩:=hq;have hA:((ALL:Nat):Int)=18446744073709551615:=rfl
 suffices H:eF (gZ c)=(c,([],false)) by
  unfold lE;rw[if_neg (by omega),H];simp only;rw[if_pos ⟨rfl,h⟩]
 have i1:=fun r=>eK (z:=c.k) (m:=12) r false (by omega) (by omega) (by decide);have i2:=fun r=>eK (z:=c.cl) (m:=8) r false (by omega) (by omega) (by decide);have i3:=fun r=>eK (z:=c.rq) (m:=ALL) r false (by omega) (by omega) (by omega);have i4:=fun r=>eK (z:=c.id) (m:=ALL) r false (by omega) (by omega) (by omega);have hid:=vU k1 k2;unfold eF aAz gZ;rw[(i1 _).1,(i1 _).2,(i2 _).2];simp only;rw[(i2 _).1,(i3 _).1,(i3 _).2];unfold gK tJ;unfold jU xF at hkp;have b1:c.k=2->(c.k==2)=true/\(c.k==3)=false/\(c.k==4)=false/\(c.k==9)=false/\idB c.k=true:=fun e=>by rw[e];decide
 have b2:c.k=3->(c.k==2)=false/\(c.k==3)=true/\(c.k==4)=false/\(c.k==9)=false/\idB c.k=true:=fun e=>by rw[e];decide
 have b3:c.k=4->(c.k==2)=false/\(c.k==3)=false/\(c.k==4)=true/\(c.k==9)=false/\idB c.k=true:=fun e=>by rw[e];decide
 have b4:c.k=9->(c.k==2)=false/\(c.k==3)=false/\(c.k==4)=false/\(c.k==9)=true/\idB c.k=false:=fun e=>by rw[e];decide
 have b5:c.k=1->(c.k==2)=false/\(c.k==3)=false/\(c.k==4)=false/\(c.k==9)=false/\idB c.k=false:=fun e=>by rw[e];decide
 by_cases e2:c.k=2
 ·obtain⟨c1,c2,c3,c4,c5⟩:=b1 e2;simp only[c1,c2,c3,c4,c5,if_true,Bool.false_eq_true,if_false]at hkp;rw[if_pos e2,if_pos e2,if_pos c5];rw[if_pos e2]at hr;simp only;rw[(i4 _).1,(i4 _).2];have:=aMl (k:=c.cal) [] (by simpa using hr);rw[List.append_nil]at this;rw[this,hkp]
 rw[if_neg e2,if_neg e2];rw[if_neg e2]at hr;by_cases e3:c.k=3
 ·obtain⟨c1,c2,c3,c4,c5⟩:=b2 e3;simp only[c1,c2,c3,c4,c5,if_true,Bool.false_eq_true,if_false]at hkp;rw[if_pos e3,if_pos e3,if_pos c5];rw[if_pos e3]at hr;simp only;rw[(i4 _).1,(i4 _).2];have:=aMo (k:=c.tm) [] hr;rw[List.append_nil]at this;rw[this,hkp]
 rw[if_neg e3,if_neg e3];rw[if_neg e3]at hr;by_cases e4:c.k=4
 ·obtain⟨c1,c2,c3,c4,c5⟩:=b3 e4;simp only[c1,c2,c3,c4,c5,if_true,Bool.false_eq_true,if_false]at hkp;rw[if_pos e4,if_pos e4,if_pos c5];simp only[Bool.and_eq_true,decide_eq_true_eq]at hr;simp only;rw[(i4 _).1,(i4 _).2];have:=eK (z:=c.ct) (m:=15) [] false (by omega) (by omega) (by decide);rw[List.append_nil]at this;simp only;rw[this.1,this.2,hkp]
 rw[if_neg e4,if_neg e4];by_cases e9:c.k=9
 ·obtain⟨c1,c2,c3,c4,c5⟩:=b4 e9;simp only[c1,c2,c3,c4,c5,if_true,Bool.false_eq_true,if_false]at hkp;rw[if_pos e9,if_pos e9,if_neg (by rw[c5];decide),List.nil_append];simp only;have:=xB (z:=c.at') [] false ha.1 ha.2;rw[List.append_nil]at this;rw[this.1,this.2,hkp]
 rw[if_neg e9,if_neg e9];by_cases e1:c.k=1
 ·obtain⟨c1,c2,c3,c4,c5⟩:=b5 e1;simp only[c1,c2,c3,c4,c5,Bool.false_eq_true,if_false]at hkp;rw[if_pos e1,if_neg (by rw[c5];decide),List.nil_append,hkp]
 rw[if_neg e1];have c5:idB c.k=true:=hid.2 ⟨e1,e9⟩;simp only[beq_eq_false_iff_ne.2 e2,beq_eq_false_iff_ne.2 e3,beq_eq_false_iff_ne.2 e4,beq_eq_false_iff_ne.2 e9,c5,if_true,Bool.false_eq_true,if_false]at hkp;rw[if_pos c5];simp only;rw[(i4 _).1,(i4 _).2,hkp]
theorem aMU {T:List Nat}(r:List Nat)(hT:T.length<=2048):fR 2048 (aC T.length++T++r)=T/\iU (aC T.length++T++r,false)=(r,false):=by
 rw[List.append_assoc];refine⟨vF T r hT (by decide),?_⟩;unfold iU;simp only;rw[vE T r hT (by decide),vD T r hT (by decide)];rfl
def aKL (c:cI):Prop:=0<=c.cl/\0<=c.rq/\c.rq<18446744073709551616/\0<=c.id/\c.id<18446744073709551616
theorem aKM {c:cI}(r:List Nat)(h:c=fY\/bY c=true)(hl:(cG c).length<=2048)(hq:aKL c)(ha:-9223372036854775808<=c.at'/\c.at'<9223372036854775808):sP ((aC (cG c).length++cG c)++r,false)=(c,(r,false)):=by
 have ht:=aMU r hl;unfold sP;simp only;rw[ht.1,ht.2];by_cases hz:c=fY
 ·have:cG c = []:=by rw[cG,if_pos hz]
  rw[if_pos this,hz]
 ·have hW:cG c=gZ c:=by rw[cG,if_neg hz]
  have hne:¬cG c = []:=by
   rw[hW,gZ,aC];exact fun h=>by cases h
  rw[if_neg hne,hW,aMn (h.resolve_left hz) (by rw[<- hW];exact hl) hq ha,if_pos rfl]
theorem aMh {a:aL}(r:List Nat)(h:dC a=true)(hl:(cG a.com).length<=2048)(hq:aKL a.com)(ha:-9223372036854775808<=a.com.at'/\a.com.at'<9223372036854775808)(hi:0<=a.id/\a.id<18446744073709551616)(ht:SpB 65535 4294967295 a.ts):lC (gW a++r,false)=(a,(r,false)):=by
 have hA:((ALL:Nat):Int)=18446744073709551615:=rfl;unfold dC aAg at h;simp only[Bool.and_eq_true,decide_eq_true_eq,Bool.or_eq_true]at h;obtain⟨g,hc⟩:=h;have i1:=fun r=>eK (z:=a.k) (m:=20) r false (by omega) (by omega) (by decide);have i2:=fun r=>eK (z:=a.who) (m:=8) r false (by omega) (by omega) (by decide);have i3:=fun r=>eK (z:=a.to) (m:=7) r false (by omega) (by omega) (by decide);have i4:=fun r=>xB (z:=a.n) r false (by omega) (by omega);have i5:=fun r=>eK (z:=a.id) (m:=ALL) r false (by omega) (by omega) (by omega);have i6:=aKM (c:=a.com) (dL a.ts++r) hc hl hq ha;have i7:=xL (M:=16) (m1:=65535) (m2:=4294967295) r false g.2.2.2.2.2.2.2.2 (by decide) (by decide) (by decide) ht;have e:gW a++r=aC a.k.toNat++(aC a.who.toNat++(aC a.to.toNat++(cL a.n++(aC a.id.toNat++((aC (cG a.com).length++cG a.com)++(dL a.ts++r)))))):=by rw[gW];simp only[List.append_assoc]
 rw[e];have h5:sO (aC a.k.toNat++(aC a.who.toNat++(aC a.to.toNat++(cL a.n++(aC a.id.toNat++((aC (cG a.com).length++cG a.com)++(dL a.ts++r)))))),false)=((aC (cG a.com).length++cG a.com)++(dL a.ts++r),false):=by
  unfold sO;rw[(i1 _).2,(i2 _).2,(i3 _).2,(i4 _).2,(i5 _).2]
 have h7:pH (dL a.ts++r,false)=(a.ts,(r,false)):=by
  unfold pH;exact i7
 unfold lC;rw[h5,i6];simp only;rw[h7,(i1 _).1,(i1 _).2];simp only;rw[(i2 _).1,(i2 _).2];simp only;rw[(i3 _).1,(i3 _).2];simp only;rw[(i4 _).1,(i4 _).2];simp only;rw[(i5 _).1]
def aKK (a:aL):Prop:=(cG a.com).length<=2048/\aKL a.com/\(-9223372036854775808<=a.com.at'/\a.com.at'<9223372036854775808)/\(0<=a.id/\a.id<18446744073709551616)/\SpB 65535 4294967295 a.ts
theorem aAh:∀(l:List aL) (r:List Nat),(∀a ∈ l,dC a=true)->(∀a ∈ l,aKK a)->actsR l.length (bM l++r,false)=(l,(r,false))
 | [],r,_,_=>rfl
 | a::l,r,h,hb=>by
  obtain⟨b1,b2,b3,b4,b5⟩:=hb a (List.mem_cons_self ..);have e:bM (a::l)++r=gW a++(bM l++r):=by simp[bM]
  rw[List.length_cons,actsR,if_neg (fun h=>by cases h),e,aMh _ (h a (List.mem_cons_self ..)) b1 b2 b3 b4 b5,aAh l r (fun x hx=>h x (List.mem_cons_of_mem _ hx)) fun x hx=>hb x (List.mem_cons_of_mem _ hx)]
theorem aMI {s:bU}(h:eZ s=true)(hb:∀a ∈ s.acts,aKK a):uV (fA s)=(s,true):=by
 have h':=h;unfold eZ lQ svB rfB at h';simp only[Bool.and_eq_true,decide_eq_true_eq,List.all_eq_true]at h';obtain⟨g1,g2,g3⟩:=h'
 suffices H:iP (fA s,false)=(s,([],false)) by
  unfold uV;rw[H];simp only;rw[if_pos ⟨rfl,h⟩]
 have i1:=fun r=>eK (z:=s.cfg.s) (m:=7) r false (by omega) (by omega) (by decide);have i2:=fun r=>eK (z:=s.cfg.m) (m:=7) r false (by omega) (by omega) (by decide);have i3:=fun r=>eK (z:=s.cfg.el) (m:=64) r false (by omega) (by omega) (by decide);have i4:=fun r=>eK (z:=s.cfg.bt) (m:=64) r false (by omega) (by omega) (by decide);have i5:=fun r=>eK (z:=s.cfg.ev) (m:=48) r false (by omega) (by omega) (by decide);have i6:=fun r=>eK (z:=s.cfg.rm) (m:=1048576) r false (by omega) (by omega) (by decide);have i7:=fun r=>eK (z:=s.rounds) (m:=200) r false (by omega) (by omega) (by decide);have i8:=fun r=>xB (z:=s.by') r false (by omega) (by omega);have i9:=fun r=>eK (z:=(s.acts.length:Int)) (m:=4096) r false (by omega) (by omega) (by decide);have ia:=aAh s.acts [] g3 hb;rw[List.append_nil]at ia;have e:fA s=aC s.cfg.s.toNat++(aC s.cfg.m.toNat++(aC s.cfg.el.toNat++(aC s.cfg.bt.toNat++(aC s.cfg.ev.toNat++(aC s.cfg.rm.toNat++(aC s.rounds.toNat++(cL s.by'++(aC ((s.acts.length:Nat):Int).toNat++bM s.acts)))))))):=by rw[fA,aJm,Int.toNat_natCast];simp only[List.append_assoc]
 rw[e];generalize hX9:aC ((s.acts.length:Nat):Int).toNat++bM s.acts=X9;have e1:∀r,cf1 (aC s.cfg.s.toNat++r,false)=(r,false):=fun r=>by unfold cf1;exact(i1 r).2
 have e2:∀r t,cf1 t=(aC s.cfg.m.toNat++r,false)->cf2 t=(r,false):=fun r t ht=>by unfold cf2;rw[ht];exact(i2 r).2
 have e3:∀r t,cf2 t=(aC s.cfg.el.toNat++r,false)->cf3 t=(r,false):=fun r t ht=>by unfold cf3;rw[ht];exact(i3 r).2
 have e4:∀r t,cf3 t=(aC s.cfg.bt.toNat++r,false)->cf4 t=(r,false):=fun r t ht=>by unfold cf4;rw[ht];exact(i4 r).2
 have e5:∀r t,cf4 t=(aC s.cfg.ev.toNat++r,false)->cf5 t=(r,false):=fun r t ht=>by unfold cf5;rw[ht];exact(i5 r).2
 have e6:∀r t,cf5 t=(aC s.cfg.rm.toNat++r,false)->cf6 t=(r,false):=fun r t ht=>by unfold cf6;rw[ht];exact(i6 r).2
 have e7:∀r t,cf6 t=(aC s.rounds.toNat++r,false)->cf7 t=(r,false):=fun r t ht=>by unfold cf7;rw[ht];exact(i7 r).2
 have e8:∀r t,cf7 t=(cL s.by'++r,false)->cf8 t=(r,false):=fun r t ht=>by unfold cf8;rw[ht];exact(i8 r).2
 have f1:=e1 (aC s.cfg.m.toNat++(aC s.cfg.el.toNat++(aC s.cfg.bt.toNat++(aC s.cfg.ev.toNat++(aC s.cfg.rm.toNat++(aC s.rounds.toNat++(cL s.by'++X9)))))));have f2:=e2 _ _ f1;have f3:=e3 _ _ f2;have f4:=e4 _ _ f3;have f5:=e5 _ _ f4;have f6:=e6 _ _ f5;have f7:=e7 _ _ f6;have f8:=e8 _ _ f7;have f9:cf9 (aC s.cfg.s.toNat++(aC s.cfg.m.toNat++(aC s.cfg.el.toNat++(aC s.cfg.bt.toNat++(aC s.cfg.ev.toNat++(aC s.cfg.rm.toNat++(aC s.rounds.toNat++(cL s.by'++X9))))))),false)=(s.acts,([],false)):=by
  unfold cf9;rw[f8];simp only;rw[<- hX9,(i9 _).2,show aF 4096 (aC ((s.acts.length:Nat):Int).toNat++bM s.acts)=s.acts.length from Int.ofNat.inj (i9 _).1];exact ia
 unfold iP;rw[f9,f1,f2,f3,f4,f5,f6,f7];simp only;rw[(i1 _).1,(i2 _).1,(i3 _).1,(i4 _).1,(i5 _).1,(i6 _).1,(i7 _).1,(i8 _).1]
theorem aMQ {l:List aO}(h:TrR l):SpB 65535 4294967295 l:=fun s hs=>by have:=h s hs;omega
theorem aLZ {s:bU}(h:eZ s=true)(hf:mD s)(hat:∀a ∈ s.acts,-9223372036854775808<=a.com.at'/\a.com.at'<9223372036854775808)(hl:(fA s).length<=65536):wL (frP 6 (fA s))=(s,true):=by
 have hb:∀a ∈ s.acts,aKK a:=fun a ha=>by
  have hk:=(kJ h).2.2 a ha;obtain⟨f1,f2,f3⟩:=hf a ha;exact⟨Nat.le_trans (iB (lO hk).2 f1 (hat a ha).1 (hat a ha).2).1 (by decide),f1,hat a ha,f2,aMQ f3⟩
 have hW:=pG (k:=6) (l:=fA s) (by decide) hl;have hk:=vV 6 (fA s) [];have hB:=rJ 6 (fA s) [];rw[List.append_nil]at hk hB;unfold wL;rw[if_pos ⟨hW,hk⟩,hB];exact aMI h hb

def akL (j:Nat):List (Nat × AV):=[(2,.p 0 0),(3,.p 1 0),(5,.i .i64 (.x fun _=>(j:Int)))]
theorem gS {α:Type}{l m:List α}{j:Nat}(h:l.take j=m.take j)(hl:j<l.length)(hm:j<m.length)(e:l[j]=m[j]):l.take (j+1)=m.take (j+1):=by
 rw[List.take_succ_eq_append_getElem hl,List.take_succ_eq_append_getElem hm,h,e]
theorem wE (a b:aL)(A B:aT)(w:World)(h:bO w a A)(h2:bO w b B):Calls Tryz.prog 33 #[.agg (cJ a A).toArray,.agg (cJ b B).toArray] w fun e w'=>e = .returned (.bool (decide (a=b)))/\Below w.heap.size w w':=by
 obtain⟨Aq,Aa,An,Ac⟩:=A;obtain⟨Bq,Ba,Bn,Bc⟩:=B;have F0:Fe 0 (fun v=>Below w.heap.size w v/\bO v a ⟨Aq,Aa,An,Ac⟩/\bO v b ⟨Bq,Ba,Bn,Bc⟩) w []:=Fe.start fun _ bv=>⟨bv,h.below bv,h2.below bv⟩;have ha:=h.n;have hb:=h2.n;have hsa:=h.sm;simp only at ha hb;refine enter (fun _=>0) [.g (cN a ⟨Aq,Aa,An,Ac⟩),.g (cN b ⟨Bq,Ba,Bn,Bc⟩)] [] Tryz.func33 rfl rfl F0 72 rfl ?_;refine ga env (Fe.frm 0 _) aA ?_;by_cases e0:a.k=b.k
 case neg =>
  refine aI 11 true (e:=.cmp .neq (.x fun _=>a.k) (.x fun _=>b.k)) (by show (a.k != b.k)=true;simpa using e0) ?_;rw[decide_eq_false (fun e:a=b=>e0 (by rw[e]))];refine ga env (Fe.frm 0 _) aA ?_;refine fa env (Fe.frm 0 _) ?_;intro B' v F;exact⟨rfl,F.now.1⟩
 refine aI 11 false (e:=.cmp .neq (.x fun _=>a.k) (.x fun _=>b.k)) (by show (a.k != b.k)=false;simpa using e0) ?_;refine ga env (Fe.frm 0 _) aA ?_;by_cases e1:a.who=b.who
 case neg =>
  refine aI 18 true (e:=.cmp .neq (.x fun _=>a.who) (.x fun _=>b.who)) (by show (a.who != b.who)=true;simpa using e1) ?_;rw[decide_eq_false (fun e:a=b=>e1 (by rw[e]))];refine ga env (Fe.frm 0 _) aA ?_;refine fa env (Fe.frm 0 _) ?_;intro B' v F;exact⟨rfl,F.now.1⟩
 refine aI 18 false (e:=.cmp .neq (.x fun _=>a.who) (.x fun _=>b.who)) (by show (a.who != b.who)=false;simpa using e1) ?_;refine ga env (Fe.frm 0 _) aA ?_;by_cases e2:a.n=b.n
 case neg =>
  refine aI 25 true (e:=.cmp .neq (.x fun _=>a.n) (.x fun _=>b.n)) (by show (a.n != b.n)=true;simpa using e2) ?_;rw[decide_eq_false (fun e:a=b=>e2 (by rw[e]))];refine ga env (Fe.frm 0 _) aA ?_;refine fa env (Fe.frm 0 _) ?_;intro B' v F;exact⟨rfl,F.now.1⟩
 refine aI 25 false (e:=.cmp .neq (.x fun _=>a.n) (.x fun _=>b.n)) (by show (a.n != b.n)=false;simpa using e2) ?_;refine ga env (Fe.frm 0 _) aA ?_;by_cases e3:a.to=b.to
 case neg =>
  refine aI 32 true (e:=.cmp .neq (.x fun _=>a.to) (.x fun _=>b.to)) (by show (a.to != b.to)=true;simpa using e3) ?_;rw[decide_eq_false (fun e:a=b=>e3 (by rw[e]))];refine ga env (Fe.frm 0 _) aA ?_;refine fa env (Fe.frm 0 _) ?_;intro B' v F;exact⟨rfl,F.now.1⟩
 refine aI 32 false (e:=.cmp .neq (.x fun _=>a.to) (.x fun _=>b.to)) (by show (a.to != b.to)=false;simpa using e3) ?_;refine ga env (Fe.frm 0 _) aA ?_;by_cases e4:a.id=b.id
 case neg =>
  refine aI 39 true (e:=.cmp .neq (.x fun _=>a.id) (.x fun _=>b.id)) (by show (a.id != b.id)=true;simpa using e4) ?_;rw[decide_eq_false (fun e:a=b=>e4 (by rw[e]))];refine ga env (Fe.frm 0 _) aA ?_;refine fa env (Fe.frm 0 _) ?_;intro B' v F;exact⟨rfl,F.now.1⟩
 refine aI 39 false (e:=.cmp .neq (.x fun _=>a.id) (.x fun _=>b.id)) (by show (a.id != b.id)=false;simpa using e4) ?_;refine ga env (Fe.frm 0 _) aA ?_;intro B' v F;refine(jI a.com b.com Aq Bq v F.now.2.1.com F.now.2.2.com).mono ?_;rintro e w2 ⟨rfl,hbw⟩;by_cases e5:a.com=b.com
 case neg =>
  refine⟨.b (.l false),_,by rw[decide_eq_false e5];rfl,(Fe.frm 2 _).b,F.on hbw,?_⟩;clear F hbw;rw[decide_eq_false (fun e:a=b=>e5 (by rw[e]))];refine ga env (Fe.frm 2 _) aA ?_;refine fa env (Fe.frm 2 _) ?_;intro B' v F;exact⟨rfl,F.now.1⟩
 refine⟨.b (.l true),_,by rw[decide_eq_true e5];rfl,(Fe.frm 2 _).b,F.on hbw,?_⟩;clear F hbw;refine ga env (Fe.frm 2 _) aA ?_;refine⟨fun q=>?_,fun q=>?_⟩
 ·have e6:¬a.ts=b.ts:=fun e=>by
   have q:((An:Int) != (Bn:Int))=true:=q;rw[<- ha,<- hb,e,bne_self_eq_false]at q;cases q
  rw[decide_eq_false (fun e:a=b=>e6 (by rw[e]))];refine ga env (Fe.frm 2 _) aA ?_;refine fa env (Fe.frm 2 _) ?_;intro B' v F;exact⟨rfl,F.now.1⟩
 have hl:An=Bn:=by
  have q:((An:Int) != (Bn:Int))=false:=q;have q:(An:Int)=(Bn:Int):=by simpa using q
  omega
 clear q;have hts:decide (a=b)=decide (a.ts=b.ts):=by
  obtain⟨k,who,n,to,id,com,ts⟩:=a;obtain⟨k2,who2,n2,to2,id2,com2,ts2⟩:=b;simp only at e0 e1 e2 e3 e4 e5;subst e0 e1 e2 e3 e4 e5;simp
 rw[hts];clear hts e0 e1 e2 e3 e4 e5;refine ga env (Fe.frm 2 _) aA ?_;refine jB (Fe 2 (fun v=>Below w.heap.size w v/\bO v a ⟨Aq,Aa,An,Ac⟩/\bO v b ⟨Bq,Ba,Bn,Bc⟩)) akL 74 An (fun j=>a.ts.take j=b.ts.take j) rfl (fun B=>⟨rfl,rfl,rfl,trivial⟩) (fun _ _ h=>h) ?_;intro i J hJ;refine ga env (Fe.frm 2 _) aA ?_;refine⟨fun q=>?_,fun q=>?_⟩
 ·have hlt:i.j<An:=by simpa [BE.den,cmpB,IE.den] using q
  clear q;have hltb:i.j<Bn:=hl ▸ hlt;have hla:i.j<a.ts.length:=ha ▸ hlt;have hlb:i.j<b.ts.length:=by omega
  obtain⟨ba,oa,rfl,_⟩:=h.ts.at (j:=i.j) (by rw[List.length_map];exact hla);obtain⟨bb,ob,rfl,_⟩:=h2.ts.at (j:=i.j) (by rw[List.length_map];exact hlb);have hra:=fun v (hv:bO v a ⟨Aq,some ⟨ba,oa,none⟩,An,Ac⟩)=>hv.ts.range (j:=i.j) (by rw[List.length_map];exact hla);have hrb:=fun v (hv:bO v b ⟨Bq,some ⟨bb,ob,none⟩,Bn,Bc⟩)=>hv.ts.range (j:=i.j) (by rw[List.length_map];exact hlb);rw[List.getElem_map]at hra hrb;have hnx:=gS i.hp hla hlb;have hne:a.ts[i.j]≠b.ts[i.j]->a.ts≠b.ts:=fun h e=>h (by simp only[e]);generalize a.ts[i.j]=p at hra hnx hne;generalize b.ts[i.j]=q at hrb hnx hne;refine ga env (Fe.frm 2 _) aA ?_;refine sX env (Fe.frm 2 _) [0,1,0,7,15,0,32,0,224,480,1023] [0,1,2,3,4,5,6,7,8,9,10] [] (fun v=>bO v a ⟨Aq,some ⟨ba,oa,none⟩,An,Ac⟩/\bO v b ⟨Bq,some ⟨bb,ob,none⟩,Bn,Bc⟩) (fun _ _ F=>F.now.2) (fun w o h=>⟨h.1.below ((Below.refl _ _).alloc (Nat.le_refl _) o),h.2.below ((Below.refl _ _).alloc (Nat.le_refl _) o)⟩) ?_;refine cV aH ?_;refine eC (.pa fun _=>⟨ba,oa+i.j*2,none⟩) (fun B' v _=>aS (e:=121) (n:=2) rfl Tryz.underlying84 (by kernel_rfl) (by rw[St.aB];rfl) (by rw[St.aB];rfl) hlt) ?_;refine cV aH ?_;refine eC (.g [.i .u16 (.x fun _=>p.f),.i .u32 (.x fun _=>p.t)]) (fun B' v hv=>cC (cs:=trV p) (b:=ba) (off:=oa+i.j*2) rfl (by rw[St.aB];rfl) (hra _ (hv rfl).2.1) Tryz.underlying121 rfl (by kernel_rfl)) ?_;refine cV aH ?_;refine eC (.pa fun _=>⟨bb,ob+i.j*2,none⟩) (fun B' v _=>aS (e:=121) (n:=2) rfl Tryz.underlying84 (by kernel_rfl) (by rw[St.aB];rfl) (by rw[St.aB];rfl) hltb) ?_;refine cV aH ?_;refine eC (.g [.i .u16 (.x fun _=>q.f),.i .u32 (.x fun _=>q.t)]) (fun B' v hv=>cC (cs:=trV q) (b:=bb) (off:=ob+i.j*2) rfl (by rw[St.aB];rfl) (hrb _ (hv rfl).2.2) Tryz.underlying121 rfl (by kernel_rfl)) ?_;refine cV aH ?_;refine⟨rfl,?_⟩;refine ga env (Fe.frm 2 _) aA ?_;refine⟨fun q2=>?_,fun q2=>?_⟩
  ·have hpq:p≠q:=fun e=>by
    subst e;revert q2;simp[BE.den,cmpB,IE.den]
   rw[decide_eq_false (hne hpq)];refine ga env (Fe.frm 2 _) aA ?_;refine fa env (Fe.frm 2 _) ?_;intro B' v F;exact⟨rfl,F.now.1⟩
  ·have hpq:p=q:=by
    obtain⟨pf,pt⟩:=p;obtain⟨qf,qt⟩:=q;revert q2;simp[BE.den,cmpB,IE.den]
   clear q2;refine ga env (Fe.frm 2 _) aA ?_;refine lI hJ hlt (hnx hpq) (fun B=>⟨rfl,rfl,?_,trivial⟩) (fun _ _ h=>h);simp only[AV.den,IE.den,getT];rw[wrI hlt (by omega)]
 ·have hje:i.j=An:=by
   have:¬i.j<An:=by simpa [BE.den,cmpB,IE.den] using q
   have:=i.hj;omega
  have he:=i.hp;rw[List.take_of_length_le (by omega),List.take_of_length_le (by omega)]at he;rw[decide_eq_true he];clear q;refine ga env (Fe.frm 2 _) aA ?_;refine fa env (Fe.frm 2 _) ?_;intro B' v F;exact⟨rfl,F.now.1⟩
def smL (j:Nat):List (Nat × AV):=[(2,.p 0 0),(3,.p 1 0),(5,.i .i64 (.x fun _=>(j:Int)))]
theorem mP (s t:bU)(L M:List (aL × aT))(a a2:Option Addr)(n n2 c c2:Nat)(w:World)(h:aN w s L a n c)(h2:aN w t M a2 n2 c2):Calls Tryz.prog 9 #[.agg (gR s a n c).toArray,.agg (gR t a2 n2 c2).toArray] w fun e w'=>e = .returned (.bool (decide (s=t)))/\Below w.heap.size w w':=by
 have F0:Fe 0 (fun v=>Below w.heap.size w v/\aW v L a n c/\aW v M a2 n2 c2) w []:=Fe.start fun _ bv=>⟨bv,h.acts.below bv,h2.acts.below bv⟩;have hn:=h.acts.ln;have hn2:=h2.acts.ln;have hsm:=h.acts.sm;obtain⟨cfg,acts,rounds,by1⟩:=s;obtain⟨cfg2,acts2,rounds2,by2⟩:=t;have he:=h.eq;have he2:=h2.eq;simp only at he he2;subst he he2;refine enter (fun _=>0) [.g (bH ⟨cfg,L.map (·.1),rounds,by1⟩ a n c),.g (bH ⟨cfg2,M.map (·.1),rounds2,by2⟩ a2 n2 c2)] [] Tryz.func9 rfl rfl F0 51 rfl ?_
 refine ga env (Fe.frm 0 _) aA ?_;by_cases ec:cfg=cfg2
 case neg =>
  refine nF 11 (.b (.l true)) ?_ (fun B=>by
   show Value.bool _=Value.bool true;obtain⟨x1,x2,x3,x4,x5,x6⟩:=cfg;obtain⟨y1,y2,y3,y4,y5,y6⟩:=cfg2;simp only[pF.mk.injEq]at ec
   congr 1
   simp[BE.den,cmpB,IE.den];omega)
  refine ga env (Fe.frm 0 _) aA ?_;refine fa env (Fe.frm 0 _) ?_;intro B' v F;exact⟨by rw[decide_eq_false (fun e=>ec (by injection e))];rfl,F.now.1⟩
 subst ec;refine nF 11 (.b (.l false)) ?_ (fun B=>by
  show Value.bool _=Value.bool false
  congr 1
  simp[BE.den,cmpB,IE.den])
 refine ga env (Fe.frm 0 _) aA ?_;by_cases hr:rounds=rounds2
 case neg =>
  refine aI 18 true (e:=.cmp .neq (.x fun _=>rounds) (.x fun _=>rounds2)) (by show (rounds != rounds2)=true;simpa using hr) ?_;refine ga env (Fe.frm 0 _) aA ?_;refine fa env (Fe.frm 0 _) ?_;intro B' v F;exact⟨by rw[decide_eq_false (fun e=>hr (by injection e))];rfl,F.now.1⟩
 subst hr;refine aI 18 false (e:=.cmp .neq (.x fun _=>rounds) (.x fun _=>rounds)) (by show (rounds != rounds)=false;simp) ?_;refine ga env (Fe.frm 0 _) aA ?_;by_cases hy:by1=by2
 case neg =>
  refine aI 25 true (e:=.cmp .neq (.x fun _=>by1) (.x fun _=>by2)) (by show (by1 != by2)=true;simpa using hy) ?_;refine ga env (Fe.frm 0 _) aA ?_;refine fa env (Fe.frm 0 _) ?_;intro B' v F;exact⟨by rw[decide_eq_false (fun e=>hy (by injection e))];rfl,F.now.1⟩
 subst hy;refine aI 25 false (e:=.cmp .neq (.x fun _=>by1) (.x fun _=>by1)) (by show (by1 != by1)=false;simp) ?_;refine ga env (Fe.frm 0 _) aA ?_;refine⟨fun q=>?_,fun q=>?_⟩
 ·have e6:¬L.map (·.1)=M.map (·.1):=fun e=>by
   have e:=congrArg List.length e;rw[List.length_map,List.length_map,hn,hn2]at e;have q:((n:Int) != (n2:Int))=true:=q;rw[e,bne_self_eq_false]at q;cases q
  refine ga env (Fe.frm 0 _) aA ?_;refine fa env (Fe.frm 0 _) ?_;intro B' v F;exact⟨by rw[decide_eq_false (fun e=>e6 (by injection e))];rfl,F.now.1⟩
 have hl:n2=n:=by
  have q:((n:Int) != (n2:Int))=false:=q;have q:(n:Int)=(n2:Int):=by simpa using q
  omega
 clear q;subst hl;have hts:decide ((⟨cfg,L.map (·.1),rounds,by1⟩:bU)=⟨cfg,M.map (·.1),rounds,by1⟩)=decide (L.map (·.1)=M.map (·.1)):=by simp
 rw[hts];clear hts;have h:=h.acts;have h2:=h2.acts;refine ga env (Fe.frm 0 _) aA ?_;refine jB (Fe 2 (fun v=>Below w.heap.size w v/\aW v L a n2 c/\aW v M a2 n2 c2)) smL 53 n2 (fun j=>(L.map (·.1)).take j=(M.map (·.1)).take j) rfl (fun B=>⟨rfl,rfl,rfl,trivial⟩) (fun _ _ F=>F.on (Below.refl _ _)) ?_
 intro i J hJ;refine ga env (Fe.frm 2 _) aA ?_;refine⟨fun q=>?_,fun q=>?_⟩
 ·have hlt:i.j<n2:=by simpa [BE.den,cmpB,IE.den] using q
  clear q;have hla:i.j<L.length:=by omega
  have hlb:i.j<M.length:=by omega
  obtain⟨ba,oa,rfl⟩:=h.base hlt;obtain⟨bb,ob,rfl⟩:=h2.base hlt;have hra:=fun v (hv:aW v L (some ⟨ba,oa,none⟩) n2 c)=>hv.range hla;have hrb:=fun v (hv:aW v M (some ⟨bb,ob,none⟩) n2 c2)=>hv.range hlb;have hma:=List.getElem_mem hla;have hmb:=List.getElem_mem hlb;have hnx:=gS i.hp (by rw[List.length_map];exact hla) (by rw[List.length_map];exact hlb);have hne:L[i.j].1≠M[i.j].1->L.map (·.1)≠M.map (·.1):=fun h e=>h (by
   have:=congrArg (fun l=>l[i.j]?) e
   simpa [List.getElem?_eq_getElem hla,List.getElem?_eq_getElem hlb] using this)
  rw[List.getElem_map,List.getElem_map]at hnx;generalize L[i.j]=p at hra hma hnx hne;generalize M[i.j]=q at hrb hmb hnx hne;obtain⟨p,A⟩:=p;obtain⟨q,B⟩:=q;simp only at hra hrb hnx hne;refine ga env (Fe.frm 2 _) aA ?_;refine sX env (Fe.frm 2 _) [0,1,0,7,15,0,32,0,224,480,1023,2047] [0,1,2,3,4,5,6,7,8,9] [.o 10,.h [11]] (fun v=>aW v L (some ⟨ba,oa,none⟩) n2 c/\aW v M (some ⟨bb,ob,none⟩) n2 c2) (fun _ _ F=>F.now.2) (fun w o h=>⟨h.1.below ((Below.refl _ _).alloc (Nat.le_refl _) o),h.2.below ((Below.refl _ _).alloc (Nat.le_refl _) o)⟩) ?_;refine cV aH ?_;refine eC (.pa fun _=>⟨ba,oa+i.j*19,none⟩) (fun B' v _=>aS (e:=86) (n:=19) rfl Tryz.underlying33 (by kernel_rfl) (by rw[St.aB];rfl) (by rw[St.aB];rfl) hlt) ?_;refine cV aH ?_;refine eC (.g (cN p A)) (fun B' v hv=>cC (cs:=cJ p A) (b:=ba) (off:=oa+i.j*19) rfl (by rw[St.aB];rfl) (hra _ (hv rfl).2.1) Tryz.underlying86 rfl (by kernel_rfl)) ?_;refine cV aH ?_;refine eC (.pa fun _=>⟨bb,ob+i.j*19,none⟩) (fun B' v _=>aS (e:=86) (n:=19) rfl Tryz.underlying33 (by kernel_rfl) (by rw[St.aB];rfl) (by rw[St.aB];rfl) hlt) ?_;refine cV aH ?_;refine eC (.g (cN q B)) (fun B' v hv=>cC (cs:=cJ q B) (b:=bb) (off:=ob+i.j*19) rfl (by rw[St.aB];rfl) (hrb _ (hv rfl).2.2) Tryz.underlying86 rfl (by kernel_rfl)) ?_;refine cV aH ?_;refine⟨rfl,?_⟩;refine ga env (Fe.frm 2 _) aA ?_;intro B' v F;refine(wE p q A B v (F.now.2.1.each _ hma) (F.now.2.2.each _ hmb)).mono ?_;rintro e w2 ⟨rfl,hbw⟩;by_cases hpq:p=q
  ·refine⟨.b (.l true),_,by rw[decide_eq_true hpq];rfl,(Fe.frm 2 _).b,F.on hbw,?_⟩;clear F hbw;refine ga env (Fe.frm 2 _) aA ?_;refine lI hJ hlt (hnx hpq) (fun B=>⟨rfl,rfl,?_,trivial⟩) (fun _ _ h=>h);simp only[AV.den,IE.den,getT];rw[wrI hlt (by omega)]
  ·refine⟨.b (.l false),_,by rw[decide_eq_false hpq];rfl,(Fe.frm 2 _).b,F.on hbw,?_⟩;clear F hbw;rw[decide_eq_false (hne hpq)];refine ga env (Fe.frm 2 _) aA ?_;refine fa env (Fe.frm 2 _) ?_;intro B' v F;exact⟨rfl,F.now.1⟩
 ·have hje:i.j=n2:=by
   have:¬i.j<n2:=by simpa [BE.den,cmpB,IE.den] using q
   have:=i.hj;omega
  have he:=i.hp;rw[List.take_of_length_le (by rw[List.length_map];omega),List.take_of_length_le (by rw[List.length_map];omega)]at he;rw[decide_eq_true he];clear q;refine ga env (Fe.frm 2 _) aA ?_;refine fa env (Fe.frm 2 _) ?_;intro B' v F;exact⟨rfl,F.now.1⟩
