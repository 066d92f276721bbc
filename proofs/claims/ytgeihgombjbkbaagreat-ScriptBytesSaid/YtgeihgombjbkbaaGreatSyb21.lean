/- For scbytes_law_holds. -/
import Derived.Test.YtgeihgombjbkbaaGreatSyb20
set_option maxHeartbeats 16000000
set_option maxRecDepth 100000
namespace Go.Proofs.YtgeihgombjbkbaaGreat
open Go.Lib (hid)
open Go.RowKit Go.Maps Go.Proofs.Own

theorem rY (k k2:fS)(la:Option Addr)(ln lc:Nat)(la2:Option Addr)(ln2 lc2:Nat)(w:World)(h:cF w k la ln lc)(h2:cF w k2 la2 ln2 lc2) :
  Calls Tryz.prog 98 #[.agg #[.int .i64 k.c,.slice la ln lc,.int .i64 k.r,.int .i64 k.b],.agg #[.int .i64 k2.c,.slice la2 ln2 lc2,.int .i64 k2.r,.int .i64 k2.b]] w fun e w'=>e = .returned (.bool (decide (k=k2)))/\Below w.heap.size w w':=by
 have C:=hid fun v hb=>uD k.l k2.l la la2 ln ln2 lc lc2 v (h.below hb).rl (h2.below hb).rl h.ll h2.ll (by have:=h.sl;unfold maxLen;omega);clear h h2;obtain⟨c,l,r,b⟩:=k;obtain⟨c2,l2,r2,b2⟩:=k2;have AL:Hid (∀o1 o2:Obj,Below w.heap.size w ((w.alloc o1).alloc o2)):=hid fun o1 o2=>((Below.refl _ _).alloc (Nat.le_refl _) _).alloc (by simp) _;have HK:Hid (decide ((⟨c,l,r,b⟩:fS)=⟨c2,l2,r2,b2⟩)=true ↔ (c=c2/\l=l2/\r=r2/\b=b2)):=hid (by rw[decide_eq_true_iff];exact⟨fun h=>by cases h;exact⟨rfl,rfl,rfl,rfl⟩,fun ⟨h1,h2,h3,h4⟩=>by rw[h1,h2,h3,h4]⟩);obtain⟨R,hR⟩:∃R:Bool,R=decide ((⟨c,l,r,b⟩:fS)=⟨c2,l2,r2,b2⟩):=⟨_,rfl⟩;rw[<- hR];rw[<- hR]at HK;clear hR;simp only at C;by_cases q0:c=c2
 case neg =>
  have HE:Hid (R=false):=hid (by rw[Bool.eq_false_iff];intro h;exact q0 ((HK.out.1 h).1));go_enter Tryz.func98,Tryz.ntmps98;go_wp2_with fail;go_ret;exact⟨by rw[HE.out];rfl,AL.out _ _⟩
 by_cases q1:r=r2
 case neg =>
  have HE:Hid (R=false):=hid (by rw[Bool.eq_false_iff];intro h;exact q1 ((HK.out.1 h).2.2.1));go_enter Tryz.func98,Tryz.ntmps98;go_wp2_with fail;go_ret;exact⟨by rw[HE.out];rfl,AL.out _ _⟩
 by_cases q2:b=b2
 case neg =>
  have HE:Hid (R=false):=hid (by rw[Bool.eq_false_iff];intro h;exact q2 ((HK.out.1 h).2.2.2));go_enter Tryz.func98,Tryz.ntmps98;go_wp2_with fail;go_ret;exact⟨by rw[HE.out];rfl,AL.out _ _⟩
 subst q0 q1 q2;have HE:Hid (R=decide (l=l2)):=hid (by rw[Bool.eq_iff_iff,HK.out,decide_eq_true_iff];exact⟨fun h=>h.2.1,fun h=>⟨rfl,h,rfl,rfl⟩⟩);rw[<- HE.out]at C;clear HE HK;go_enter Tryz.func98,Tryz.ntmps98;go_wp2_with fail;refine(C.out _ (AL.out _ _)).mono ?_;rintro e w1 ⟨rfl,hb1⟩;have B1:=hid (bD (AL.out _ _) hb1);clear hb1;go_wp2_with fail;go_ret;exact⟨by cases R<;>rfl,B1.out⟩
theorem sE (k k2:fS)(la:Option Addr)(ln lc:Nat)(la2:Option Addr)(ln2 lc2:Nat)(w:World)(h:cF w k la ln lc)(h2:cF w k2 la2 ln2 lc2) :
  Calls Tryz.prog 127 #[.agg #[.int .i64 k.c,.slice la ln lc,.int .i64 k.r,.int .i64 k.b],.agg #[.int .i64 k2.c,.slice la2 ln2 lc2,.int .i64 k2.r,.int .i64 k2.b]] w fun e w'=>e = .returned (.bool (decide (k=k2)))/\Below w.heap.size w w':=by
 have HR:=hid h.rl;have HL:=hid h.ll;have hsm:=h.sl;have HR2:=hid h2.rl;have HL2:=hid h2.ll;clear h h2;obtain⟨c,l,r,b⟩:=k;obtain⟨c2,l2,r2,b2⟩:=k2;have AL:Hid (∀o1 o2:Obj,Below w.heap.size w ((w.alloc o1).alloc o2)):=hid fun o1 o2=>((Below.refl _ _).alloc (Nat.le_refl _) _).alloc (by simp) _;have HK:Hid (decide ((⟨c,l,r,b⟩:fS)=⟨c2,l2,r2,b2⟩)=true ↔ (c=c2/\l=l2/\r=r2/\b=b2)):=hid (by rw[decide_eq_true_iff];exact⟨fun h=>by cases h;exact⟨rfl,rfl,rfl,rfl⟩,fun ⟨h1,h2,h3,h4⟩=>by rw[h1,h2,h3,h4]⟩);obtain⟨R,hR⟩:∃R:Bool,R=decide ((⟨c,l,r,b⟩:fS)=⟨c2,l2,r2,b2⟩):=⟨_,rfl⟩;rw[<- hR];rw[<- hR]at HK;clear hR;simp only at HR HL HR2 HL2;by_cases q0:c=c2
 case neg =>
  have HE:Hid (R=false):=hid (by rw[Bool.eq_false_iff];intro h;exact q0 ((HK.out.1 h).1));go_enter Tryz.func127,Tryz.ntmps127;go_wp2_with fail;go_ret;exact⟨by rw[HE.out];rfl,AL.out _ _⟩
 by_cases q1:r=r2
 case neg =>
  have HE:Hid (R=false):=hid (by rw[Bool.eq_false_iff];intro h;exact q1 ((HK.out.1 h).2.2.1));go_enter Tryz.func127,Tryz.ntmps127;go_wp2_with fail;go_ret;exact⟨by rw[HE.out];rfl,AL.out _ _⟩
 by_cases q2:b=b2
 case neg =>
  have HE:Hid (R=false):=hid (by rw[Bool.eq_false_iff];intro h;exact q2 ((HK.out.1 h).2.2.2));go_enter Tryz.func127,Tryz.ntmps127;go_wp2_with fail;go_ret;exact⟨by rw[HE.out];rfl,AL.out _ _⟩
 by_cases q3:ln=ln2
 case neg =>
  have HE:Hid (R=false):=hid (by rw[Bool.eq_false_iff];intro h;exact q3 (by rw[<- HL.out,<- HL2.out,(HK.out.1 h).2.1]));go_enter Tryz.func127,Tryz.ntmps127;go_wp2_with fail;go_ret;exact⟨by rw[HE.out];rfl,AL.out _ _⟩
 subst q0 q1 q2 q3;have HE:Hid (R=decide (l=l2)):=hid (by rw[Bool.eq_iff_iff,HK.out,decide_eq_true_iff];exact⟨fun h=>h.2.1,fun h=>⟨rfl,h,rfl,rfl⟩⟩);clear HK;go_enter Tryz.func127,Tryz.ntmps127;go_wp2_with fail
 go_loopw [5] (fun i wr=>∃(j:Nat),i = .int .i64 j/\j<=ln/\l.take j=l2.take j/\wr.cell? ⟨w.heap.size,1,none⟩=some (.slice la ln lc)/\wr.cell? ⟨w.heap.size+1,1,none⟩=some (.slice la2 ln lc2)/\Below w.heap.size w wr/\w.heap.size+1<wr.heap.size) (fun i _=>ln-(intOf i).toNat)
 case atStart=>exact⟨0,rfl,Nat.zero_le _,rfl,by go_cell,by go_cell,AL.out _ _,by simp⟩
 case round =>
  obtain⟨j,rfl,hj,hrow,k1,k2,hb,hsz⟩:=hrel;have HB:=hid hb;have HW:=hid hrow;have K1:=hid k1;have K2:=hid k2;have HS:=hid hsz;have DR:Hid (Below w.heap.size w wr -> ∀m,Below w.heap.size w (wr.drewN m)):=hid fun h m=>h.trans ((Below.drewN _ _).mono h.size);clear hb hrow hsz;by_cases hlt:j<ln
  ·have hjl:j<l.length:=by have:=HL.out;omega
   have hjm:j<l2.length:=by have:=HL2.out;omega
   obtain⟨bb,oo,rfl,hbl,x0,x1⟩:=HR.out.sp hjl;obtain⟨bb2,oo2,rfl,hbl2,y0,y1⟩:=HR2.out.sp hjm;have x0:=aP HB.out x0 hbl;have x1:=aP HB.out x1 hbl;have y0:=aP HB.out y0 hbl2;have y1:=aP HB.out y1 hbl2;by_cases he:l[j]=l2[j]
   ·have HT:Hid (l.take (j+1)=l2.take (j+1)):=hid (fM HW.out hjl hjm he);rw[<- he]at y0 y1;generalize l[j]=s at x0 x1 y0 y1;obtain⟨f,t⟩:=s;simp only at x0 x1 y0 y1;go_wp2_with fail
    go_quiet (fail)
    go_wp2_with fail
    go_roundw
    case rel=>exact⟨j+1,by first|rfl|go_num,by omega,HT.out,K1.out,K2.out,DR.out HB.out _,HS.out⟩
    all_goals (show ln-((j:Int)+1).toNat<ln-((j:Int)).toNat;omega)
   ·have HF:Hid (R=false):=hid (by rw[HE.out];exact decide_eq_false fun h=>he (by subst h;rfl));generalize l[j]=s at x0 x1 he;generalize l2[j]=s2 at y0 y1 he;obtain⟨f,t⟩:=s;obtain⟨f2,t2⟩:=s2;simp only at x0 x1 y0 y1;by_cases h1:f=f2
    ·have h2:¬t=t2:=fun e=>he (by rw[h1,e]);have bx:(f==f2)=true:=by simp[h1]
     have by':(t==t2)=false:=by simp[h2]
     clear he h1 h2;go_wp2_with fail
     go_quiet (fail)
     go_wp2_with fail;go_ret;exact⟨by rw[HF.out];rfl,DR.out HB.out _⟩
    ·have bx:(f==f2)=false:=by simp[h1]
     clear he h1;go_wp2_with fail
     go_quiet (fail)
     go_wp2_with fail;go_ret;exact⟨by rw[HF.out];rfl,DR.out HB.out _⟩
  ·obtain rfl:j=ln:=by omega
   have HT:Hid (R=true):=hid (by
    rw[HE.out];have:=HW.out;rw[List.take_of_length_le (by rw[HL.out];exact Nat.le_refl _),List.take_of_length_le (by rw[HL2.out];exact Nat.le_refl _)]at this;exact decide_eq_true this)
   go_wp2_with fail;go_ret;exact⟨by rw[HT.out];rfl,HB.out⟩
