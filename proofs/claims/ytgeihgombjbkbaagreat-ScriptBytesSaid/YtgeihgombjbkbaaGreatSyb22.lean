/- For scbytes_law_holds. -/
import Derived.ChangeKeysEq
import Derived.Test.YtgeihgombjbkbaaGreatSyb21
set_option maxHeartbeats 16000000
set_option maxRecDepth 100000
namespace Go.Proofs.YtgeihgombjbkbaaGreat
open Go Go.RowKit Go.Maps Go.Proofs.Own

theorem aAF (dd:Nat)(w:World)(a b c d a2 b2 c2 d2:Int):(Op.eqItems (dd+1) 50 1 #[.int .u64 a,.int .u64 b,.int .u64 c,.int .u64 d] #[.int .u64 a2,.int .u64 b2,.int .u64 c2,.int .u64 d2] [0,1,2,3]).run Tryz.prog w = .ok (a==a2&&(b==b2&&(c==c2&&d==d2))) w:=by
 have hk:Tryz.prog.plainKey 50=true:=by kernel_rfl
 have hp:∀(xs:Array Value) (j:Nat) v,xs[j]? = some v->(part 50 xs j).run Tryz.prog w = .ok v w:=fun xs j v hv=>run_part_plain w hk hv;have he:∀x y,(Op.equalIn (dd+1) 50 (.int .u64 x) (.int .u64 y)).run Tryz.prog w = .ok (x==y) w:=fun x y=>run_equalIn_int w dd 50 .u64 .u64 x y Tryz.underlying50;simp only[Op.eqItems,Nat.mul_one,Sem.run_bind];rw[hp _ 0 (.int .u64 a) rfl];simp only[Result.andThen_ok];rw[hp _ 0 (.int .u64 a2) rfl];simp only[Result.andThen_ok];rw[he a a2];cases ea:(a==a2) with
 | false=>simp
 | true =>
  simp only[Result.andThen_ok,Bool.not_true,Bool.false_eq_true,if_false,Bool.true_and,Sem.run_bind];rw[hp _ 1 (.int .u64 b) rfl];simp only[Result.andThen_ok];rw[hp _ 1 (.int .u64 b2) rfl];simp only[Result.andThen_ok];rw[he b b2];cases eb:(b==b2) with
  | false=>simp
  | true =>
   simp only[Result.andThen_ok,Bool.not_true,Bool.false_eq_true,if_false,Bool.true_and,Sem.run_bind];rw[hp _ 2 (.int .u64 c) rfl];simp only[Result.andThen_ok];rw[hp _ 2 (.int .u64 c2) rfl];simp only[Result.andThen_ok];rw[he c c2];cases ec:(c==c2) with
   | false=>simp
   | true =>
    simp only[Result.andThen_ok,Bool.not_true,Bool.false_eq_true,if_false,Bool.true_and,Sem.run_bind];rw[hp _ 3 (.int .u64 d) rfl];simp only[Result.andThen_ok];rw[hp _ 3 (.int .u64 d2) rfl];simp only[Result.andThen_ok];rw[he d d2];cases ed:(d==d2)<;>simp
theorem iO (w:World)(a b c d a2 b2 c2 d2:Int):(binOp .eql 183 (.agg #[.int .u64 a,.int .u64 b,.int .u64 c,.int .u64 d]) (.agg #[.int .u64 a2,.int .u64 b2,.int .u64 c2,.int .u64 d2])).run Tryz.prog w = .ok (.bool (a==a2&&(b==b2&&(c==c2&&d==d2)))) w:=by
 obtain⟨i0,hi,_⟩:=gA (show (Tryz.prog.info? 50).map (fun i=>(i.zero,i.size,i.bytes))=some (some (.int .u64 0),1,8) by kernel_rfl);have hc:Tryz.prog.cellsOf 50=1:=by kernel_rfl
 have q2:=run_equalIn_array (P:=Tryz.prog) w 9999 #[.int .u64 a,.int .u64 b,.int .u64 c,.int .u64 d] #[.int .u64 a2,.int .u64 b2,.int .u64 c2,.int .u64 d2] Tryz.underlying183 hi;rw[hc,show List.range 4 = [0,1,2,3] from rfl,aAF 9998]at q2;rw[run_eql_struct,q2];rfl
end Go.Proofs.YtgeihgombjbkbaaGreat
namespace Go.Proofs.YtgeihgombjbkbaaGreat
open Go.Lib (hid)
open Go.RowKit Go.Maps Go.Proofs.Own

structure cI where
 k:Int
 cl:Int
 rq:Int
 id:Int
 ct:Int
 at':Int
 cal:fC
 tm:fS
deriving DecidableEq
structure fO where
 wa:Option Addr
 wn:Nat
 wc:Nat
 ca:Option Addr
 cn:Nat
 cc:Nat
 la:Option Addr
 ln:Nat
 lc:Nat
def gY (c:cI)(A:fO):List Value:=[.int .i64 c.k,.int .u64 c.cl,.int .u64 c.rq,.int .u64 c.id,.int .i64 c.ct,.int .i64 c.at',.int .i64 c.cal.o,.slice A.wa A.wn A.wc,.slice A.ca A.cn A.cc,.int .i64 c.tm.c,.slice A.la A.ln A.lc,.int .i64 c.tm.r,.int .i64 c.tm.b]
structure aY (w:World)(c:cI)(A:fO):Prop where
 cal:cE w c.cal A.wa A.wn A.wc A.ca A.cn A.cc
 tm:cF w c.tm A.la A.ln A.lc
 at0:-9223372036854775808<=c.at'
 at1:c.at'<9223372036854775808
theorem aY.below {w w':World}{c:cI}{A:fO}(h:aY w c A)(hb:Below w.heap.size w w'):aY w' c A:=⟨h.cal.below hb,h.tm.below hb,h.at0,h.at1⟩
theorem qY {a b:Int}(h0:-9223372036854775808<=a)(h1:a<9223372036854775808)(k0:-9223372036854775808<=b)(k1:b<9223372036854775808)(h:IntKind.u64.wrap a=IntKind.u64.wrap b):a=b:=by
 rw[wrap_u64,wrap_u64]at h;omega
theorem jI (c c2:cI)(A A2:fO)(w:World)(h:aY w c A)(h2:aY w c2 A2) :
  Calls Tryz.prog 81 #[.agg (gY c A).toArray,.agg (gY c2 A2).toArray] w fun e w'=>e = .returned (.bool (decide (c=c2)))/\Below w.heap.size w w':=by
 have C:=hid fun v hb=>sD c.cal c2.cal _ _ _ _ _ _ _ _ _ _ _ _ v (h.cal.below hb) (h2.cal.below hb);have D:=hid fun v hb=>sE c.tm c2.tm _ _ _ _ _ _ v (h.tm.below hb) (h2.tm.below hb);have HW:=hid (qY h.at0 h.at1 h2.at0 h2.at1);clear h h2;obtain⟨k,cl,rq,id,ct,at1,⟨o1,lw,lc0⟩,⟨tc,ll,tr,tb⟩⟩:=c;obtain⟨k2,cl2,rq2,id2,ct2,at2,⟨o2,lw2,lc2⟩,⟨tc2,ll2,tr2,tb2⟩⟩:=c2;obtain⟨wa,wn,wc,ca,cn,cc,la,ln,lc⟩:=A;obtain⟨wa2,wn2,wc2,ca2,cn2,cc2,la2,ln2,lc2'⟩:=A2;simp only[gY]at C D HW ⊢;have HK:Hid (decide ((⟨k,cl,rq,id,ct,at1,⟨o1,lw,lc0⟩,⟨tc,ll,tr,tb⟩⟩:cI)=⟨k2,cl2,rq2,id2,ct2,at2,⟨o2,lw2,lc2⟩,⟨tc2,ll2,tr2,tb2⟩⟩)=true ↔ (k=k2/\cl=cl2/\rq=rq2/\id=id2/\ct=ct2/\at1=at2/\(⟨o1,lw,lc0⟩:fC)=⟨o2,lw2,lc2⟩/\(⟨tc,ll,tr,tb⟩:fS)=⟨tc2,ll2,tr2,tb2⟩)):=hid (by
  rw[decide_eq_true_iff];exact⟨fun h=>by cases h;exact⟨rfl,rfl,rfl,rfl,rfl,rfl,rfl,rfl⟩,fun ⟨h1,h2,h3,h4,h5,h6,h7,h8⟩=>by rw[h1,h2,h3,h4,h5,h6,h7,h8]⟩)
 obtain⟨R,hR⟩:∃R:Bool,R=decide ((⟨k,cl,rq,id,ct,at1,⟨o1,lw,lc0⟩,⟨tc,ll,tr,tb⟩⟩:cI)=⟨k2,cl2,rq2,id2,ct2,at2,⟨o2,lw2,lc2⟩,⟨tc2,ll2,tr2,tb2⟩⟩):=⟨_,rfl⟩;rw[<- hR];rw[<- hR]at HK;clear hR;have AL:Hid (∀a b:Obj,Below w.heap.size w ((w.alloc a).alloc b)):=hid fun a b=>((Below.refl _ _).alloc (Nat.le_refl _) _).alloc (by simp) _;have AL4:Hid (∀a b c d:Obj,Below w.heap.size w ((((w.alloc a).alloc b).alloc c).alloc d)):=hid fun a b c d=>((((Below.refl _ _).alloc (Nat.le_refl _) _).alloc (by simp only[World.size_alloc];omega) _).alloc (by simp only[World.size_alloc];omega) _).alloc (by simp only[World.size_alloc];omega) _;by_cases q0:k=k2
 case neg =>
  have HE:Hid (R=false):=hid (by rw[Bool.eq_false_iff];intro h;exact q0 ((HK.out.1 h).1));go_enter Tryz.func81,Tryz.ntmps81;go_wp2_with fail;go_ret;exact⟨by rw[HE.out];rfl,AL.out _ _⟩
 subst q0;by_cases q1:cl=cl2
 case neg =>
  have HE:Hid (R=false):=hid (by rw[Bool.eq_false_iff];intro h;exact q1 ((HK.out.1 h).2.1));go_enter Tryz.func81,Tryz.ntmps81;go_wp2_with fail;go_ret;exact⟨by rw[HE.out];rfl,AL.out _ _⟩
 subst q1;by_cases q2:rq=rq2
 case neg =>
  have HE:Hid (R=false):=hid (by rw[Bool.eq_false_iff];intro h;exact q2 ((HK.out.1 h).2.2.1));go_enter Tryz.func81,Tryz.ntmps81;go_wp2_with fail;go_ret;exact⟨by rw[HE.out];rfl,AL.out _ _⟩
 subst q2;by_cases q3:id=id2
 case neg =>
  have HE:Hid (R=false):=hid (by rw[Bool.eq_false_iff];intro h;exact q3 ((HK.out.1 h).2.2.2.1));go_enter Tryz.func81,Tryz.ntmps81;go_wp2_with fail;go_ret;exact⟨by rw[HE.out];rfl,AL.out _ _⟩
 subst q3;by_cases q4:ct=ct2
 case neg =>
  have HE:Hid (R=false):=hid (by rw[Bool.eq_false_iff];intro h;exact q4 ((HK.out.1 h).2.2.2.2.1));go_enter Tryz.func81,Tryz.ntmps81;go_wp2_with fail;go_ret;exact⟨by rw[HE.out];rfl,AL.out _ _⟩
 subst q4;by_cases q5:at1=at2
 case neg =>
  have HE:Hid (R=false):=hid (by rw[Bool.eq_false_iff];intro h;exact q5 ((HK.out.1 h).2.2.2.2.2.1));go_enter Tryz.func81,Tryz.ntmps81;go_wp2_with fail;go_ret;exact⟨by rw[HE.out];rfl,AL.out _ _⟩
 subst q5;cases q6:decide ((⟨o1,lw,lc0⟩:fC)=⟨o2,lw2,lc2⟩) with
 | false =>
  have HE:Hid (R=false):=hid (by rw[Bool.eq_false_iff];intro h;rw[decide_eq_true (HK.out.1 h).2.2.2.2.2.2.1]at q6;cases q6);rw[q6]at C;go_enter Tryz.func81,Tryz.ntmps81;go_wp2_with fail;refine(C.out _ (AL.out _ _)).mono ?_;rintro e w1 ⟨rfl,hb1⟩;have B1:=hid (bD (AL.out _ _) hb1);clear hb1;go_wp2_with fail;go_ret;exact⟨by rw[HE.out];rfl,B1.out⟩
 | true =>
  have HE:Hid (R=decide ((⟨tc,ll,tr,tb⟩:fS)=⟨tc2,ll2,tr2,tb2⟩)):=hid (by
   rw[decide_eq_true_iff]at q6;rw[Bool.eq_iff_iff,HK.out,decide_eq_true_iff];exact⟨fun h=>h.2.2.2.2.2.2.2,fun h=>⟨rfl,rfl,rfl,rfl,rfl,rfl,q6,h⟩⟩)
  rw[<- HE.out]at D;rw[q6]at C;clear HE HK q6;go_enter Tryz.func81,Tryz.ntmps81;go_wp2_with fail;refine(C.out _ (AL.out _ _)).mono ?_;rintro e w1 ⟨rfl,hb1⟩;have k20:=Below.at hb1 (show World.cell? _ ⟨w.heap.size,9,none⟩=some (.int .i64 tc) by go_cell) (by simp only[World.size_alloc];omega);have k21:=Below.at hb1 (show World.cell? _ ⟨w.heap.size,10,none⟩=some (.slice la ln lc) by go_cell) (by simp only[World.size_alloc];omega);have k22:=Below.at hb1 (show World.cell? _ ⟨w.heap.size,11,none⟩=some (.int .i64 tr) by go_cell) (by simp only[World.size_alloc];omega);have k23:=Below.at hb1 (show World.cell? _ ⟨w.heap.size,12,none⟩=some (.int .i64 tb) by go_cell) (by simp only[World.size_alloc];omega);have k24:=Below.at hb1 (show World.cell? _ ⟨w.heap.size+1,9,none⟩=some (.int .i64 tc2) by go_cell) (by simp only[World.size_alloc];omega);have k25:=Below.at hb1 (show World.cell? _ ⟨w.heap.size+1,10,none⟩=some (.slice la2 ln2 lc2') by go_cell) (by simp only[World.size_alloc];omega);have k26:=Below.at hb1 (show World.cell? _ ⟨w.heap.size+1,11,none⟩=some (.int .i64 tr2) by go_cell) (by simp only[World.size_alloc];omega);have k27:=Below.at hb1 (show World.cell? _ ⟨w.heap.size+1,12,none⟩=some (.int .i64 tb2) by go_cell) (by simp only[World.size_alloc];omega);have B1:=hid (bD (AL.out _ _) hb1);clear hb1;go_wp2_with fail;refine(D.out _ B1.out).mono ?_;rintro e w2 ⟨rfl,hb2⟩;have B2:=hid (bD B1.out hb2);clear hb2;go_wp2_with fail;go_ret;exact⟨by cases R<;>rfl,B2.out⟩
theorem jG (c c2:cI)(A A2:fO)(w:World)(h:aY w c A)(h2:aY w c2 A2) :
  Calls Tryz.prog 50 #[.agg (gY c A).toArray,.agg (gY c2 A2).toArray] w fun e w'=>e = .returned (.bool (decide (c=c2)))/\Below w.heap.size w w':=by
 have C:=hid fun v hb=>rU c.cal c2.cal _ _ _ _ _ _ _ _ _ _ _ _ v (h.cal.below hb) (h2.cal.below hb);have D:=hid fun v hb=>rY c.tm c2.tm _ _ _ _ _ _ v (h.tm.below hb) (h2.tm.below hb);have HW:=hid (qY h.at0 h.at1 h2.at0 h2.at1);clear h h2;obtain⟨k,cl,rq,id,ct,at1,⟨o1,lw,lc0⟩,⟨tc,ll,tr,tb⟩⟩:=c;obtain⟨k2,cl2,rq2,id2,ct2,at2,⟨o2,lw2,lc2⟩,⟨tc2,ll2,tr2,tb2⟩⟩:=c2;obtain⟨wa,wn,wc,ca,cn,cc,la,ln,lc⟩:=A;obtain⟨wa2,wn2,wc2,ca2,cn2,cc2,la2,ln2,lc2'⟩:=A2;simp only[gY]at C D HW ⊢;have HK:Hid (decide ((⟨k,cl,rq,id,ct,at1,⟨o1,lw,lc0⟩,⟨tc,ll,tr,tb⟩⟩:cI)=⟨k2,cl2,rq2,id2,ct2,at2,⟨o2,lw2,lc2⟩,⟨tc2,ll2,tr2,tb2⟩⟩)=true ↔ (k=k2/\cl=cl2/\rq=rq2/\id=id2/\ct=ct2/\at1=at2/\(⟨o1,lw,lc0⟩:fC)=⟨o2,lw2,lc2⟩/\(⟨tc,ll,tr,tb⟩:fS)=⟨tc2,ll2,tr2,tb2⟩)):=hid (by
  rw[decide_eq_true_iff];exact⟨fun h=>by cases h;exact⟨rfl,rfl,rfl,rfl,rfl,rfl,rfl,rfl⟩,fun ⟨h1,h2,h3,h4,h5,h6,h7,h8⟩=>by rw[h1,h2,h3,h4,h5,h6,h7,h8]⟩)
 obtain⟨R,hR⟩:∃R:Bool,R=decide ((⟨k,cl,rq,id,ct,at1,⟨o1,lw,lc0⟩,⟨tc,ll,tr,tb⟩⟩:cI)=⟨k2,cl2,rq2,id2,ct2,at2,⟨o2,lw2,lc2⟩,⟨tc2,ll2,tr2,tb2⟩⟩):=⟨_,rfl⟩;rw[<- hR];rw[<- hR]at HK;clear hR;have AL:Hid (∀a b:Obj,Below w.heap.size w ((w.alloc a).alloc b)):=hid fun a b=>((Below.refl _ _).alloc (Nat.le_refl _) _).alloc (by simp) _;have AL4:Hid (∀a b c d:Obj,Below w.heap.size w ((((w.alloc a).alloc b).alloc c).alloc d)):=hid fun a b c d=>((((Below.refl _ _).alloc (Nat.le_refl _) _).alloc (by simp only[World.size_alloc];omega) _).alloc (by simp only[World.size_alloc];omega) _).alloc (by simp only[World.size_alloc];omega) _;by_cases q0:k=k2
 case neg =>
  have HE:Hid (R=false):=hid (by rw[Bool.eq_false_iff];intro h;exact q0 ((HK.out.1 h).1));go_enter Tryz.func50,Tryz.ntmps50;go_wp2_with fail;go_ret;exact⟨by rw[HE.out];rfl,AL4.out _ _ _ _⟩
 subst q0;by_cases q1:cl=cl2
 case neg =>
  have HE:Hid (R=false):=hid (by rw[Bool.eq_false_iff];intro h;exact q1 ((HK.out.1 h).2.1));have bx:(cl==cl2)=false:=by simpa using q1
  have h0:∀w,_:=fun w=>iO w cl rq id (IntKind.u64.wrap at1) cl2 rq2 id2 (IntKind.u64.wrap at2);simp only[bx,Bool.false_and]at h0;go_enter Tryz.func50,Tryz.ntmps50;go_wp2_with fail;go_ret;exact⟨by rw[HE.out];rfl,AL4.out _ _ _ _⟩
 subst q1;by_cases q2:rq=rq2
 case neg =>
  have HE:Hid (R=false):=hid (by rw[Bool.eq_false_iff];intro h;exact q2 ((HK.out.1 h).2.2.1));have bx:(rq==rq2)=false:=by simpa using q2
  have h0:∀w,_:=fun w=>iO w cl rq id (IntKind.u64.wrap at1) cl rq2 id2 (IntKind.u64.wrap at2);simp only[beq_self_eq_true,bx,Bool.false_and,Bool.and_false]at h0;go_enter Tryz.func50,Tryz.ntmps50;go_wp2_with fail;go_ret;exact⟨by rw[HE.out];rfl,AL4.out _ _ _ _⟩
 subst q2;by_cases q3:id=id2
 case neg =>
  have HE:Hid (R=false):=hid (by rw[Bool.eq_false_iff];intro h;exact q3 ((HK.out.1 h).2.2.2.1));have bx:(id==id2)=false:=by simpa using q3
  have h0:∀w,_:=fun w=>iO w cl rq id (IntKind.u64.wrap at1) cl rq id2 (IntKind.u64.wrap at2);simp only[beq_self_eq_true,bx,Bool.false_and,Bool.and_false]at h0;go_enter Tryz.func50,Tryz.ntmps50;go_wp2_with fail;go_ret;exact⟨by rw[HE.out];rfl,AL4.out _ _ _ _⟩
 subst q3;by_cases q4:at1=at2
 case neg =>
  have HE:Hid (R=false):=hid (by rw[Bool.eq_false_iff];intro h;exact q4 ((HK.out.1 h).2.2.2.2.2.1));have bx:(IntKind.u64.wrap at1==IntKind.u64.wrap at2)=false:=by simpa using fun e=>q4 (HW.out e)
  have h0:∀w,_:=fun w=>iO w cl rq id (IntKind.u64.wrap at1) cl rq id (IntKind.u64.wrap at2);simp only[beq_self_eq_true,bx,Bool.and_false]at h0;go_enter Tryz.func50,Tryz.ntmps50;go_wp2_with fail;go_ret;exact⟨by rw[HE.out];rfl,AL4.out _ _ _ _⟩
 subst q4;by_cases q5:ct=ct2
 case neg =>
  have HE:Hid (R=false):=hid (by rw[Bool.eq_false_iff];intro h;exact q5 ((HK.out.1 h).2.2.2.2.1));have h0:∀w,_:=fun w=>iO w cl rq id (IntKind.u64.wrap at1) cl rq id (IntKind.u64.wrap at1);simp only[beq_self_eq_true,Bool.and_self]at h0;go_enter Tryz.func50,Tryz.ntmps50;go_wp2_with fail;go_ret;exact⟨by rw[HE.out];rfl,AL4.out _ _ _ _⟩
 subst q5;have h0:∀w,_:=fun w=>iO w cl rq id (IntKind.u64.wrap at1) cl rq id (IntKind.u64.wrap at1);simp only[beq_self_eq_true,Bool.and_self]at h0;cases q6:decide ((⟨o1,lw,lc0⟩:fC)=⟨o2,lw2,lc2⟩) with
 | false =>
  have HE:Hid (R=false):=hid (by rw[Bool.eq_false_iff];intro h;rw[decide_eq_true (HK.out.1 h).2.2.2.2.2.2.1]at q6;cases q6);rw[q6]at C;go_enter Tryz.func50,Tryz.ntmps50;go_wp2_with fail;refine(C.out _ (AL4.out _ _ _ _)).mono ?_;rintro e w1 ⟨rfl,hb1⟩;have B1:=hid (bD (AL4.out _ _ _ _) hb1);clear hb1;go_wp2_with fail;go_ret;exact⟨by rw[HE.out];rfl,B1.out⟩
 | true =>
  have HE:Hid (R=decide ((⟨tc,ll,tr,tb⟩:fS)=⟨tc2,ll2,tr2,tb2⟩)):=hid (by
   rw[decide_eq_true_iff]at q6;rw[Bool.eq_iff_iff,HK.out,decide_eq_true_iff];exact⟨fun h=>h.2.2.2.2.2.2.2,fun h=>⟨rfl,rfl,rfl,rfl,rfl,rfl,q6,h⟩⟩)
  rw[<- HE.out]at D;rw[q6]at C;clear HE HK q6;go_enter Tryz.func50,Tryz.ntmps50;go_wp2_with fail;refine(C.out _ (AL4.out _ _ _ _)).mono ?_;rintro e w1 ⟨rfl,hb1⟩;have k20:=Below.at hb1 (show World.cell? _ ⟨w.heap.size,9,none⟩=some (.int .i64 tc) by go_cell) (by simp only[World.size_alloc];omega);have k21:=Below.at hb1 (show World.cell? _ ⟨w.heap.size,10,none⟩=some (.slice la ln lc) by go_cell) (by simp only[World.size_alloc];omega);have k22:=Below.at hb1 (show World.cell? _ ⟨w.heap.size,11,none⟩=some (.int .i64 tr) by go_cell) (by simp only[World.size_alloc];omega);have k23:=Below.at hb1 (show World.cell? _ ⟨w.heap.size,12,none⟩=some (.int .i64 tb) by go_cell) (by simp only[World.size_alloc];omega);have k24:=Below.at hb1 (show World.cell? _ ⟨w.heap.size+1,9,none⟩=some (.int .i64 tc2) by go_cell) (by simp only[World.size_alloc];omega);have k25:=Below.at hb1 (show World.cell? _ ⟨w.heap.size+1,10,none⟩=some (.slice la2 ln2 lc2') by go_cell) (by simp only[World.size_alloc];omega);have k26:=Below.at hb1 (show World.cell? _ ⟨w.heap.size+1,11,none⟩=some (.int .i64 tr2) by go_cell) (by simp only[World.size_alloc];omega);have k27:=Below.at hb1 (show World.cell? _ ⟨w.heap.size+1,12,none⟩=some (.int .i64 tb2) by go_cell) (by simp only[World.size_alloc];omega);have B1:=hid (bD (AL4.out _ _ _ _) hb1);clear hb1;go_wp2_with fail;refine(D.out _ B1.out).mono ?_;rintro e w2 ⟨rfl,hb2⟩;have B2:=hid (bD B1.out hb2);clear hb2;go_wp2_with fail;go_ret;exact⟨by cases R<;>rfl,B2.out⟩
