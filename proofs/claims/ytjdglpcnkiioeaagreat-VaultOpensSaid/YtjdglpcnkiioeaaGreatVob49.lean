/- For vltopens_law_holds. -/
import Derived.Test.YtjdglpcnkiioeaaGreatVob48
import Derived.Test.YtjdglpcnkiioeaaGreatVob18
import Derived.Test.YtjdglpcnkiioeaaGreatVob47
set_option maxHeartbeats 16000000
set_option maxRecDepth 100000
namespace Go.Proofs.YtjdglpcnkiioeaaGreat
open Go.RowKit Go.Maps Go.Proofs.Own

def dA (D:aA)(a:Option Addr)(c:Nat):AV:=.g [.i .i64 (.x fun _=>D.room),.sl (fun _=>a) (fun _=>D.files.length) (fun _=>c),.b (.x fun _=>D.down),.i .i64 (.x fun _=>D.armed),.i .u64 (.x fun _=>D.steps)]
def lA (L:aQ)(ea:Option Addr)(ec:Nat)(fa:Option Addr)(fc:Nat):AV:=.g [.i .u64 (.x fun _=>L.b),.sl (fun _=>ea) (fun _=>L.es.length) (fun _=>ec),.sl (fun _=>fa) (fun _=>L.fs.length) (fun _=>fc),.i .i64 (.x fun _=>L.safe)]
def pl0:Nat->Option Pl:=fun _=>none
theorem aHA {S:Nat->Prop}{w:World}{D D1 D2 D3:aA}{ls:lN}{si st:Int}{ms:List Int}{sd:List Nat}{m e2 e3 lb:Nat}{es:List cU}{fs:List WF}{safe:Nat}{a:Option Addr}{c:Nat}(h:In S w (DR D a c))(o:OFq D D1 D2 D3 ls si st ms sd m e2 e3 lb es fs safe){r:aA × eB × Nat}
  (h1:e2≠0->r=(D2,⟨ls.t,ls.v,⟨m,st,ms,sd⟩,⟨0,[],[],0⟩,false⟩,e2)) (h2:e2=0->e3≠0->r=(D3,⟨ls.t,ls.v,⟨m,st,ms,sd⟩,⟨lb,es,fs,safe⟩,false⟩,e3))
  (h3:e2=0->e3=0->((atW ⟨lb,es,fs,safe⟩ m).getD ⟨0,0,[]⟩).t=st\/(atW ⟨lb,es,fs,safe⟩ m).isSome=false->r=(D3,⟨ls.t,ls.v,⟨m,st,ms,sd⟩,⟨lb,es,fs,safe⟩,false⟩,0))
  (h4:e2=0->e3=0->((atW ⟨lb,es,fs,safe⟩ m).getD ⟨0,0,[]⟩).t≠st->(atW ⟨lb,es,fs,safe⟩ m).isSome=true->r=((bA D3 ⟨lb,es,fs,safe⟩ m).1,⟨ls.t,ls.v,⟨m,st,ms,sd⟩,(bA D3 ⟨lb,es,fs,safe⟩ m).2.1,false⟩,(bA D3 ⟨lb,es,fs,safe⟩ m).2.2)):Calls Tryz.prog 91 #[dv D a c] w (QO S r w):=by
 refine enter (F:=fun v L=>Fr S w v L (DR D a c)) (fun _=>0) [dA D a c] [] Tryz.func91 rfl rfl h.fr 84 rfl ?_;refine gf env pl0 ?_;intro B w F;refine(o.qa _ _ _ _ (F.ins fun _ h=>h)).mono ?_;rintro e w ⟨a1,c1,rfl,hs,hb⟩;refine⟨.t [dA D1 a1 c1,.g [.i .u64 (.x fun _=>ls.t),.i .i64 (.x fun _=>ls.v)],.i .i64 (.l 0)],_,rfl,(Fr.frm _ _ _).b,(F.next hb hs).vL fun _ h=>h.1,?_⟩;clear hb hs F;refine gf env pl0 ?_;intro B w F;refine(o.qb _ _ _ _ (F.ins fun _ h=>h)).mono ?_;rintro e w ⟨a2,c2,ma,mc,da,dc,rfl,hs,hb⟩;refine⟨.t [dA D2 a2 c2,.g [.i .u64 (.x fun _=>m),.i .u64 (.x fun _=>st),.sl (fun _=>ma) (fun _=>ms.length) (fun _=>mc),.sl (fun _=>da) (fun _=>sd.length) (fun _=>dc)],.i .i64 (.x fun _=>e2)],_,rfl,(Fr.frm _ _ _).b,(F.next hb hs).vL fun _ h=>h.1,?_⟩;clear hb hs F;refine gf env pl0 ?_;refine⟨fun q=>?_,fun q=>?_⟩
 ·refine gf env pl0 ?_;refine ff env ?_;intro B w F;rw[h1 (by rintro rfl;cases q)];exact⟨[],⟨a2,c2,ma,mc,da,dc,none,0,none,0⟩,rfl,F.fin (fun _ h=>⟨h.1,h.2,LR.nil _ _⟩),F.bel⟩
 have e2z:e2=0:=by simpa [BE.den,cmpB,IE.den] using q
 clear q;refine gf env pl0 ?_;intro B w F;refine(o.qc _ _ _ _ (F.ins fun _ h=>h.1)).mono ?_;rintro e w ⟨a3,c3,ea,ec,fa,fc,el,rfl,hs,hb⟩;refine⟨.t [dA D3 a3 c3,lA ⟨lb,es,fs,safe⟩ ea ec fa fc,.i .i64 (.x fun _=>e3)],_,rfl,(Fr.frm _ _ _).b,(F.next hb hs).vL fun _ h=>(⟨h.1.1,h.2.2,h.1.2⟩:VR D3 ⟨ls.t,ls.v,⟨m,st,ms,sd⟩,⟨lb,es,fs,safe⟩,false⟩ el ⟨a3,c3,ma,mc,da,dc,ea,ec,fa,fc⟩ _),?_⟩;clear hb hs F;refine gf env pl0 ?_;refine⟨fun q=>?_,fun q=>?_⟩
 ·refine gf env pl0 ?_;refine ff env ?_;intro B w F;rw[h2 e2z (by rintro rfl;cases q)];exact⟨el,⟨a3,c3,ma,mc,da,dc,ea,ec,fa,fc⟩,rfl,F.fin (fun _ h=>h),F.bel⟩
 have e3z:e3=0:=by simpa [BE.den,cmpB,IE.den] using q
 clear q;subst e3z;refine gf env pl0 ?_;intro B w F;refine(o.qd _ _ el ⟨a3,c3,ma,mc,da,dc,ea,ec,fa,fc⟩ (F.ins fun _ h=>h)).mono ?_;rintro e w ⟨ax,nx,cx,rfl,hb⟩;cases hyo:(atW ⟨lb,es,fs,safe⟩ m).isSome with
 | false =>
  refine⟨.t [.g [.i .u64 (.x fun _=>((atW ⟨lb,es,fs,safe⟩ m).getD ⟨0,0,[]⟩).t),.i .i64 (.x fun _=>((atW ⟨lb,es,fs,safe⟩ m).getD ⟨0,0,[]⟩).k),.sl (fun _=>ax) (fun _=>nx) (fun _=>cx)],.b (.l false)],_,rfl,(Fr.frm _ _ _).b,F.call hb,?_⟩;clear hb F;refine gf env pl0 ?_;refine ff env ?_;intro B w F;rw[h3 e2z rfl (.inr hyo)];exact⟨el,⟨a3,c3,ma,mc,da,dc,ea,ec,fa,fc⟩,rfl,F.fin (fun _ h=>h),F.bel⟩
 | true =>
  refine⟨.t [.g [.i .u64 (.x fun _=>((atW ⟨lb,es,fs,safe⟩ m).getD ⟨0,0,[]⟩).t),.i .i64 (.x fun _=>((atW ⟨lb,es,fs,safe⟩ m).getD ⟨0,0,[]⟩).k),.sl (fun _=>ax) (fun _=>nx) (fun _=>cx)],.b (.l true)],_,rfl,(Fr.frm _ _ _).b,F.call hb,?_⟩;clear hb F;refine gf env pl0 ?_;refine⟨fun q=>?_,fun q=>?_⟩
  ·refine gf env pl0 ?_;intro B w F;refine(o.qe _ _ _ _ _ _ _ _ el (F.ins fun _ h=>⟨h.d,h.l⟩)).mono ?_;have hr:=h4 e2z rfl (by simpa [BE.den,cmpB,IE.den] using q) hyo;generalize bA D3 ⟨lb,es,fs,safe⟩ m=r4 at hr ⊢;obtain⟨D4,⟨lb4,es4,fs4,safe4⟩,e4⟩:=r4;rintro e w ⟨a4,c4,ea4,ec4,fa4,fc4,el4,rfl,hs,hb⟩;refine⟨.t [dA D4 a4 c4,lA ⟨lb4,es4,fs4,safe4⟩ ea4 ec4 fa4 fc4,.i .i64 (.x fun _=>e4)],_,rfl,(Fr.frm _ _ _).b,(F.next hb hs).vL fun _ h=>(⟨h.1.1,h.2.s,h.1.2⟩:VR D4 ⟨ls.t,ls.v,⟨m,st,ms,sd⟩,⟨lb4,es4,fs4,safe4⟩,false⟩ el4 ⟨a4,c4,ma,mc,da,dc,ea4,ec4,fa4,fc4⟩ _),?_⟩;clear hb hs F;refine gf env pl0 ?_;refine ff env ?_;intro B w F;rw[hr];exact⟨el4,⟨a4,c4,ma,mc,da,dc,ea4,ec4,fa4,fc4⟩,rfl,F.fin (fun _ h=>h),F.bel⟩
  ·refine gf env pl0 ?_;refine ff env ?_;intro B w F;rw[h3 e2z rfl (.inl (by simpa [BE.den,cmpB,IE.den] using q))];exact⟨el,⟨a3,c3,ma,mc,da,dc,ea,ec,fa,fc⟩,rfl,F.fin (fun _ h=>h),F.bel⟩
theorem aI5 {S:Nat->Prop}{w:World}{D:aA}{a:Option Addr}{c:Nat}{n:Int}(h:In S w (DR D a c))(hf:DF D n)(hn:n+2000<=1000000000):Calls Tryz.prog 91 #[dv D a c] w (QO S (iX D) w):=by
 have f1:=hf.aIa (by omega);have f2:=f1.gone (by omega);obtain⟨m,hm⟩:=pA (aT D).1;have g:=wA f2 (by omega) m;have qa:∀T w a c,In T w (DR D a c)->Calls Tryz.prog 139 #[dv D a c] w (QV T ((aT D).1,cO D) w):=fun T w a c h=>aI6 h hf.fX hf.calm (by have:=hf.st;omega) hf.b8;have qb:∀T w a c,In T w (DR (aT D).1 a c)->Calls Tryz.prog 140 #[dv (aT D).1 a c] w (QS T ((bD (aT D).1).1,bZ (aT D).1,cN (aT D).1) w):=fun T w a c h=>aI3 h f1.fX f1.calm (by have:=f1.st;omega) f1.b8;have qc:∀T w a c,In T w (DR (bD (aT D).1).1 a c)->Calls Tryz.prog 141 #[dv (bD (aT D).1).1 a c,.int .u64 m] w (QL T (OW (bD (aT D).1).1 m) w):=fun T w a c h=>aI7 h f2.fX f2.calm f2.ris f2.b8 (by have:=f2.st;omega) m;have hR:iX D=iX D:=rfl
 conv at hR=>rhs;unfold iX;rw[hm,Int.toNat_natCast]
 rw[hR];clear hR;generalize cN (aT D).1=e2 at *
 generalize hs:bZ (aT D).1=s at *
 generalize (bD (aT D).1).1=D2 at *
 generalize (aT D).1=D1 at *
 generalize cO D=ls at *
 generalize OW D2 m=r3 at *
 obtain⟨si,st,ms,sd⟩:=s;obtain rfl:si=m:=hm;obtain⟨D3,⟨lb,es,fs,safe⟩,e3⟩:=r3;have o:OFq D D1 D2 D3 ls m st ms sd m e2 e3 lb es fs safe:=⟨qa,qb,qc,fun T w el p h=>aI0 h g.2.2.1.last m,fun T w a c ea ec fa fc el h=>vY h g.1 g.2.2.1 (by have:=g.2.1;have:=g.2.2.2.1;simp only at *;omega) (by have:=g.2.2.2.1;show fs.length<=1000000;simp only at this;omega) m⟩;refine aHA h o (fun h1=>by rw[if_pos h1]) (fun h1 h2=>by rw[if_neg (fun q=>q h1),if_pos h2]) (fun h1 h2 h3=>?_) (fun h1 h2 h3 h4=>?_)
 ·rw[if_neg (fun q=>q h1),if_neg (fun q=>q h2),if_neg (fun q=>h3.elim q.1 fun h=>by rw[q.2]at h;cases h)]
 ·rw[if_neg (fun q=>q h1),if_neg (fun q=>q h2),if_pos ⟨h3,h4⟩]
open Go.RowKit Go.Maps Go.Proofs.Own Go.Shelf

def vA (D:aA)(V:eB)(p:VP):List AV:=[.i .i64 (.x fun _=>D.room),.sl (fun _=>p.a) (fun _=>D.files.length) (fun _=>p.c),.b (.x fun _=>D.down),.i .i64 (.x fun _=>D.armed),.i .u64 (.x fun _=>D.steps),.i .u64 (.x fun _=>V.t),.i .i64 (.x fun _=>V.v),.i .u64 (.x fun _=>V.s.i),.i .u64 (.x fun _=>V.s.t),.sl (fun _=>p.ma) (fun _=>V.s.ms.length) (fun _=>p.mc),.sl (fun _=>p.da) (fun _=>V.s.d.length) (fun _=>p.dc),.i .u64 (.x fun _=>V.L.b),.sl (fun _=>p.ea) (fun _=>V.L.es.length) (fun _=>p.ec),.sl (fun _=>p.fa) (fun _=>V.L.fs.length) (fun _=>p.fc),.i .i64 (.x fun _=>V.L.safe),.b (.x fun _=>V.br)]
def xA (db vb:Nat)(D:aA)(V:eB)(p:VP):List AV:=.pa (fun _=>⟨db,0,none⟩) :: .pa (fun _=>⟨vb,0,none⟩)::vA D V p
def plLike:Nat->Option Pl
 | 1=>some ⟨[0,1,3,7,0,16,48,112,0,271,1023],512,[.h [0,1,2,3,4,5,6,7],.o 8,.h [9],.o 10],[]⟩
 | 3=>some ⟨[0,1,0,4,15,31,63,63,191,447,959,2047,4095,8191,16383,16383,49151,131071,262143,524287,1048575,2097151,4194303,2097151,10485759,27262975,67108863,134217727,268435455,536870911,1073741823,536870911,2684354559,6979321855,15569256447,34359738367,68719476735,137438953471,274877906943,549755813887,274877906943,1374389534719,4398046511103,8796093022207,17592186044415],4157056600002,[.h [0,2,3],.o 1,.h [4,5,6,7,8,9,10,11,12,13,14,15,16],.o 17,.h [18,19,20,21,23,24,25],.o 22,.h [26,27,28,29,31,32,33,34],.o 30,.h [35,36,37,38,40,41],.o 39,.o 42,.h [43,44]],[]⟩
 | 11=>some ⟨[0,0,0,7,0,16,0,0,255,511,1023,2047,4095,2047,10239,26623,65535,131071,262143,524287,1048575,2097151,4194303,8388607,524287,17301503,50855935,134217727,268435455,536870911,1073741823,2147483647,4294967295,8589934591,17179869183,1073741823,35433480191,104152956927,274877906943,549755813887,1099511627775],273937922056,[.h [0,1,2,4,5,6,7],.o 3,.o 8,.o 9,.h [10,11,13,14,15],.o 12,.o 16,.h [17,18,19,20,21,22,24,25,26],.o 23,.h [27,28,29,30,31,32,33,35,36,37],.o 34,.o 38,.h [39,40]],[]⟩
 | _=>none
theorem aKv {w:World}{xb:Nat}{b:VB}{ev fv:Value}{el el2:bN}{D:aA}{V:eB}{p:VP}(hx:Box w (xb,AV.denL (fun _=>0) (xA b.db b.vb D V p)))(hv:bG w b ev fv el D V)(hr:∀v,Below w.heap.size w v->VR D V el2 p v)(hl:V.L.last<=HX)(hn:V.L.es.length<=1048576)(hw:DWf D)(ho:∀m:Nat,V.s.i=m -> ∀y,atW V.L m=some y->y.t=V.s.t)(index:Nat)(hi:(index:Int)<18446744073709551616)(most:Int)(hmo:most<=9223372036854775807) :
  Calls Tryz.prog 39 #[.pointer (some ⟨xb,0,none⟩),.int .u64 index,.int .i64 most] w fun e w'=>e = .returned (.bool true)/\Below w.heap.size w w':=by
 have F0:Fo (mkB (fun _=>xb) 0 [xA b.db b.vb D V p]) (fun _=>False) w (fun v=>Below w.heap.size w v/\bG v b ev fv el D V/\VR D V el2 p v) w (mkB (fun _=>xb) 0 [xA b.db b.vb D V p]) :=
  Fo.start (fun q hq=>by obtain rfl:=List.mem_singleton.1 hq;exact hx) fun v bv=>⟨bv,hv.below bv,hr v bv⟩
 have hb1:(V.L.b:Int)+1<18446744073709551616:=by have:V.L.last=V.L.b+V.L.es.length:=rfl;unfold HX at hl;omega
 have hlz:(V.L.last:Int)<18446744073709551616:=by unfold HX at hl;omega
 have hwr:IntKind.u64.wrap ((V.L.b:Int)+1)=(V.L.b:Int)+1:=by rw[IntKind.wrap_u64];omega
 have htt:(atW V.L index).isSome=true->((atW V.L index).getD ⟨0,0,[]⟩).t=(iS V index).1:=fun h=>by
  unfold iS;split
  ·rename_i h1;obtain⟨y,hy⟩:=Option.isSome_iff_exists.1 h;rw[hy];exact ho index h1 y hy
  ·rfl
 have hfr:oF V.L 0 1048576=V.L.es:=by
  unfold oF;rw[Nat.max_eq_right (Nat.zero_le _),Nat.sub_self,List.drop_zero,List.take_of_length_le (by show V.L.es.length<=1048576;exact hn)]
 have hfl:∀m (l:bN),l.map (·.1)=oF V.L index m->l.length<=2147483648:=fun m l h=>by
  have h2:=congrArg List.length h;rw[List.length_map]at h2;unfold oF at h2;rw[List.length_take,List.length_drop]at h2;omega
 refine enter (fun _=>xb) [.p 0 0,.i .u64 (.x fun _=>index),.i .i64 (.x fun _=>most)] [xA b.db b.vb D V p] Tryz.func39 rfl rfl F0 160 rfl ?_;refine ga env (Fo.frm _ _ _ _ _ rfl) plLike ?_;intro B w1 F;refine(vZ F.now.2.1).mono ?_;rintro e w2 ⟨si,st,mv,dv,rfl,hs,hb⟩;obtain⟨mv',dv',hee,hm,hd⟩:=hs;simp only[Value.agg.injEq,Array.mk.injEq,List.cons.injEq,and_true,Value.int.injEq,true_and]at hee;obtain⟨rfl,rfl,rfl,rfl⟩:=hee;obtain⟨am,cm,rfl,_⟩:=hm.shape;obtain⟨ad,cd,rfl,_⟩:=hd.shape;refine⟨.t [.g [.i .u64 (.x fun _=>V.s.i),.i .u64 (.x fun _=>V.s.t),.sl (fun _=>am) (fun _=>V.s.ms.length) (fun _=>cm),.sl (fun _=>ad) (fun _=>V.s.d.length) (fun _=>cd)],.b (.x fun _=>decide (0<V.s.i))],_,rfl,(Fo.frm _ _ _ _ _ rfl).b,F.step hb (Z:=fun v=>cL v (.agg #[.int .u64 V.s.i,.int .u64 V.s.t,.slice am V.s.ms.length cm,.slice ad V.s.d.length cd]) V.s) (fun v bv=>⟨_,_,rfl,hm.below bv,hd.below bv⟩),?_⟩;clear hm hd hb F;refine ga env (Fo.frm _ _ _ _ _ rfl) plLike ?_;intro B w1 F;refine(aGt F.now.2.2.1).mono ?_;rintro e w2 ⟨rfl,hb⟩;refine⟨.g [.i .u64 (.x fun _=>V.t),.i .i64 (.x fun _=>V.v)],_,rfl,(Fo.frm _ _ _ _ _ rfl).b,F.on hb,?_⟩;clear hb F;refine ga env (Fo.frm _ _ _ _ _ rfl) plLike ?_;refine tC 37 false ?_ ?_
 ·simp[BE.den,cmpB,IE.den]
 refine ga env (Fo.frm _ _ _ _ _ rfl) plLike ?_;refine tC 45 false ?_ ?_
 ·simp[BE.den,cmpB,IE.den]
 refine ga env (Fo.frm _ _ _ _ _ rfl) plLike ?_;intro B w1 F;refine(aF7 _ _ V.s V.s _ F.now.1 F.now.2.2.2.s).mono ?_;rintro e w2 ⟨rfl,hb⟩;refine⟨.b (.l true),_,by rw[bM.aD3];rfl,(Fo.frm _ _ _ _ _ rfl).b,F.on hb,?_⟩;clear hb F;refine ga env (Fo.frm _ _ _ _ _ rfl) plLike ?_;intro B w1 F;refine(aC9 F.now.2.2.1).mono ?_;rintro e w2 ⟨rfl,hb⟩;refine⟨.i .u64 (.x fun _=>V.s.i),_,rfl,(Fo.frm _ _ _ _ _ rfl).b,F.on hb,?_⟩;clear hb F;refine ga env (Fo.frm _ _ _ _ _ rfl) plLike ?_;refine tC 60 false ?_ ?_
 ·simp[BE.den,cmpB,IE.den]
 refine ga env (Fo.frm _ _ _ _ _ rfl) plLike ?_;intro B w1 F;refine(aGs F.now.2.2.1 hb1).mono ?_;rintro e w2 ⟨rfl,hb⟩;refine⟨.i .u64 (.x fun _=>(V.L.b:Int)+1),_,rfl,(Fo.frm _ _ _ _ _ rfl).b,F.on hb,?_⟩;clear hb F;refine ga env (Fo.frm _ _ _ _ _ rfl) plLike ?_;refine tC 69 false ?_ ?_
 ·simp[BE.den,cmpB,IE.den,hwr]
 refine ga env (Fo.frm _ _ _ _ _ rfl) plLike ?_;intro B w1 F;refine(aDa F.now.2.2.1 hlz).mono ?_;rintro e w2 ⟨rfl,hb⟩;refine⟨.i .u64 (.x fun _=>V.L.last),_,rfl,(Fo.frm _ _ _ _ _ rfl).b,F.on hb,?_⟩;clear hb F;refine ga env (Fo.frm _ _ _ _ _ rfl) plLike ?_;intro B w1 F;refine(lE V.L p.ea p.ec p.fa p.fc _ (by omega)).mono ?_;rintro e w2 ⟨rfl,hb⟩;refine⟨.i .u64 (.x fun _=>V.L.last),_,rfl,(Fo.frm _ _ _ _ _ rfl).b,F.on hb,?_⟩;clear hb F;refine ga env (Fo.frm _ _ _ _ _ rfl) plLike ?_;refine⟨fun q=>absurd q (by simp[BE.den,cmpB,IE.den]),fun _=>?_⟩;refine ga env (Fo.frm _ _ _ _ _ rfl) plLike ?_;intro B w1 F;refine(aDb F.now.2.2.1 hl (by omega) index).mono ?_;rintro e w2 ⟨rfl,hb⟩;refine⟨.t [.i .u64 (.x fun _=>(iS V index).1),.b (.x fun _=>(iS V index).2)],_,rfl,(Fo.frm _ _ _ _ _ rfl).b,F.on hb,?_⟩;clear hb F;refine ga env (Fo.frm _ _ _ _ _ rfl) plLike ?_;intro B w1 F;refine(aKf (F.inn fun _ h=>h.2.2.2) hl index).mono ?_;rintro e w2 ⟨rfl,hb⟩;refine⟨.t [.i .u64 (.x fun _=>(iS V index).1),.b (.x fun _=>(iS V index).2)],_,rfl,(Fo.frm _ _ _ _ _ rfl).b,F.on hb,?_⟩;clear hb F;cases hyo:(atW V.L index).isSome with
 | false =>
  refine ga env (Fo.frm _ _ _ _ _ rfl) plLike ?_;intro B w1 F;refine(aEk F.now.2.2.1 hl (by omega) index).mono ?_;rintro e w2 ⟨xa,xn,xc,rfl,_,_,hb⟩;rw[hyo];refine⟨.t [.g [.i .u64 (.x fun _=>((atW V.L index).getD ⟨0,0,[]⟩).t),.i .i64 (.x fun _=>((atW V.L index).getD ⟨0,0,[]⟩).k),.sl (fun _=>xa) (fun _=>xn) (fun _=>xc)],.b (.l false)],_,rfl,(Fo.frm _ _ _ _ _ rfl).b,F.on hb,?_⟩;clear hb F;refine ga env (Fo.frm _ _ _ _ _ rfl) plLike ?_;intro B w1 F;refine(aI0 (F.inn fun _ h=>h.2.2.2) hl index).mono ?_;rintro e w2 ⟨xa,xn,xc,rfl,hb⟩;rw[hyo];refine⟨.t [.g [.i .u64 (.x fun _=>((atW V.L index).getD ⟨0,0,[]⟩).t),.i .i64 (.x fun _=>((atW V.L index).getD ⟨0,0,[]⟩).k),.sl (fun _=>xa) (fun _=>xn) (fun _=>xc)],.b (.l false)],_,rfl,(Fo.frm _ _ _ _ _ rfl).b,F.on hb,?_⟩;clear hb F;refine ga env (Fo.frm _ _ _ _ _ rfl) plLike ?_;refine tC 104 false ?_ ?_
  ·simp[BE.den,cmpB,IE.den]
  refine ga env (Fo.frm _ _ _ _ _ rfl) plLike ?_;refine tC 109 false ?_ ?_
  ·simp[BE.den]
  refine ga env (Fo.frm _ _ _ _ _ rfl) plLike ?_;intro B w1 F;refine(sT F.now.2.2.1 hl (by omega) index hi most hmo).mono ?_;rintro e w2 ⟨v1,l1,rfl,ho1,hm1,hd1,_,hb⟩;obtain⟨va,vc,rfl,_⟩:=ho1.qG.shape;refine⟨.sl (fun _=>va) (fun _=>(aN l1).length) (fun _=>vc),_,rfl,(Fo.frm _ _ _ _ _ rfl).b,F.step hb (Z:=fun v=>bJ v 3 (.slice va (aN l1).length vc) (aN l1)/\cA v (fun _=>False) l1) (fun v bv=>⟨ho1.qG.below bv,cA.kept (cA.mono hd1 (T:=fun _=>False) fun _ _ _ _ h=>h.elim) (Kept.aL bv (S:=fun _=>False) fun k h1 h2=>by omega) fun _ h=>h⟩),?_⟩;clear ho1 hd1 hb F;refine ga env (Fo.frm _ _ _ _ _ rfl) plLike ?_;intro B w1 F;refine(aHz (F.inn fun _ h=>h.2.2.2.2.l) hl (by omega) index most).mono ?_;rintro e w2 ⟨v2,l2,rfl,hm2,hs2,hb⟩;obtain⟨va2,vc2,rfl,_⟩:=hs2.now.1.shape;refine⟨.sl (fun _=>va2) (fun _=>(aN l2).length) (fun _=>vc2),_,rfl,(Fo.frm _ _ _ _ _ rfl).b,F.step hb (Z:=fun v=>jV v (.slice va2 (aN l2).length vc2) l2) (fun v bv=>hs2.to (Kept.aL bv (S:=fun _=>False) fun k h1 h2=>by omega) |>.now),?_⟩;clear hs2 hb F;refine ga env (Fo.frm _ _ _ _ _ rfl) plLike ?_;intro B w1 F;refine(pR F.now.2.1.1 F.now.2.1.2 F.now.1.1 F.now.1.2 (hfl _ _ hm1) (hfl _ _ hm2)).mono ?_;rintro e w2 ⟨r,rfl,hr,hb⟩;obtain rfl:r=true:=hr.2 (hm1.trans hm2.symm);refine⟨.b (.l true),_,rfl,(Fo.frm _ _ _ _ _ rfl).b,F.on hb,?_⟩;clear hb F hr;refine ga env (Fo.frm _ _ _ _ _ rfl) plLike ?_;intro B w1 F;refine(sT (index:=0) (most:=1048576) F.now.2.2.2.2.1 hl (by omega) (by omega) (by omega)).mono ?_;rintro e w2 ⟨v3,l3,rfl,ho3,hm3,hd3,_,hb⟩;obtain⟨va3,vc3,rfl,_⟩:=ho3.qG.shape;refine⟨.sl (fun _=>va3) (fun _=>(aN l3).length) (fun _=>vc3),_,rfl,(Fo.frm _ _ _ _ _ rfl).b,F.step hb (Z:=fun v=>bJ v 3 (.slice va3 (aN l3).length vc3) (aN l3)/\cA v (fun _=>False) l3) (fun v bv=>⟨ho3.qG.below bv,cA.kept (cA.mono hd3 (T:=fun _=>False) fun _ _ _ _ h=>h.elim) (Kept.aL bv (S:=fun _=>False) fun k h1 h2=>by omega) fun _ h=>h⟩),?_⟩;clear ho3 hd3 hb F;refine ga env (Fo.frm _ _ _ _ _ rfl) plLike ?_;intro B w1 F;have hen:=F.now.2.2.2.2.2.2.l;refine(pR F.now.1.1 F.now.1.2 hen.er.1 hen.er.2 (by have h2:=congrArg List.length hm3;rw[List.length_map,hfr]at h2;omega) (by have h2:=congrArg List.length hen.es;rw[List.length_map]at h2;omega)).mono ?_;rintro e w2 ⟨r,rfl,hr,hb⟩;obtain rfl:r=true:=hr.2 (by rw[hm3,hfr,hen.es]);refine⟨.b (.l true),_,rfl,(Fo.frm _ _ _ _ _ rfl).b,F.on hb,?_⟩;clear hb F hr hen;refine ga env (Fo.frm _ _ _ _ _ rfl) plLike ?_;intro B w1 F;refine(wO _ _ _ D _ F.now.2.2.2.2.2.1.log.dZ).mono ?_;rintro e w2 ⟨rfl,rfl⟩;refine⟨.i .u64 (.x fun _=>D.steps),_,rfl,(Fo.frm _ _ _ _ _ rfl).b,F.on (Below.refl _ _),?_⟩;clear F;refine ga env (Fo.frm _ _ _ _ _ rfl) plLike ?_;refine tC 152 true ?_ ?_
  ·simp[BE.den,cmpB,IE.den]
  refine ga env (Fo.frm _ _ _ _ _ rfl) plLike ?_;intro B w1 F;refine(nO _ _ _ D _ F.now.2.2.2.2.2.1.log.dZ hw).mono ?_;rintro e w2 ⟨v4,rfl,hs4,hb⟩;obtain⟨va4,vc4,rfl,_⟩:=hs4.shape;refine⟨.sl (fun _=>va4) (fun _=>(D.files.map rfV).length) (fun _=>vc4),_,rfl,(Fo.frm _ _ _ _ _ rfl).b,F.step hb (Z:=fun v=>bJ v 3 (.slice va4 (D.files.map rfV).length vc4) (D.files.map rfV)) (fun v bv=>hs4.below bv),?_⟩;clear hs4 hb F;refine ga env (Fo.frm _ _ _ _ _ rfl) plLike ?_;intro B w1 F;refine(nX _ _ D.files _ F.now.1 F.now.2.2.2.2.2.2.2.d (by have:=hw.many;omega)).mono ?_;rintro e w2 ⟨rfl,hb⟩;refine⟨.b (.l true),_,rfl,(Fo.frm _ _ _ _ _ rfl).b,F.on hb,?_⟩;clear hb F;refine ga env (Fo.frm _ _ _ _ _ rfl) plLike ?_;refine fa env (Fo.frm _ _ _ _ _ rfl) ?_;intro B w1 F;exact⟨rfl,F.now.2.2.2.2.2.1⟩
 | true =>
  have htt:=htt hyo;refine ga env (Fo.frm _ _ _ _ _ rfl) plLike ?_;intro B w1 F;refine(aEk F.now.2.2.1 hl (by omega) index).mono ?_;rintro e w2 ⟨xa,xn,xc,rfl,_,_,hb⟩;rw[hyo];refine⟨.t [.g [.i .u64 (.x fun _=>((atW V.L index).getD ⟨0,0,[]⟩).t),.i .i64 (.x fun _=>((atW V.L index).getD ⟨0,0,[]⟩).k),.sl (fun _=>xa) (fun _=>xn) (fun _=>xc)],.b (.l true)],_,rfl,(Fo.frm _ _ _ _ _ rfl).b,F.on hb,?_⟩;clear hb F;refine ga env (Fo.frm _ _ _ _ _ rfl) plLike ?_;intro B w1 F;refine(aI0 (F.inn fun _ h=>h.2.2.2) hl index).mono ?_;rintro e w2 ⟨xa,xn,xc,rfl,hb⟩;rw[hyo];refine⟨.t [.g [.i .u64 (.x fun _=>((atW V.L index).getD ⟨0,0,[]⟩).t),.i .i64 (.x fun _=>((atW V.L index).getD ⟨0,0,[]⟩).k),.sl (fun _=>xa) (fun _=>xn) (fun _=>xc)],.b (.l true)],_,rfl,(Fo.frm _ _ _ _ _ rfl).b,F.on hb,?_⟩;clear hb F;refine ga env (Fo.frm _ _ _ _ _ rfl) plLike ?_;refine tC 104 false ?_ ?_
  ·simp[BE.den,cmpB,IE.den]
  refine ga env (Fo.frm _ _ _ _ _ rfl) plLike ?_;refine tC 109 false ?_ ?_
  ·simp[BE.den]
  refine ga env (Fo.frm _ _ _ _ _ rfl) plLike ?_;refine⟨fun q=>absurd q (by simp[BE.den,cmpB,IE.den,htt]),fun _=>?_⟩;refine ga env (Fo.frm _ _ _ _ _ rfl) plLike ?_;intro B w1 F;refine(sT F.now.2.2.1 hl (by omega) index hi most hmo).mono ?_;rintro e w2 ⟨v1,l1,rfl,ho1,hm1,hd1,_,hb⟩;obtain⟨va,vc,rfl,_⟩:=ho1.qG.shape;refine⟨.sl (fun _=>va) (fun _=>(aN l1).length) (fun _=>vc),_,rfl,(Fo.frm _ _ _ _ _ rfl).b,F.step hb (Z:=fun v=>bJ v 3 (.slice va (aN l1).length vc) (aN l1)/\cA v (fun _=>False) l1) (fun v bv=>⟨ho1.qG.below bv,cA.kept (cA.mono hd1 (T:=fun _=>False) fun _ _ _ _ h=>h.elim) (Kept.aL bv (S:=fun _=>False) fun k h1 h2=>by omega) fun _ h=>h⟩),?_⟩;clear ho1 hd1 hb F;refine ga env (Fo.frm _ _ _ _ _ rfl) plLike ?_;intro B w1 F;refine(aHz (F.inn fun _ h=>h.2.2.2.2.l) hl (by omega) index most).mono ?_;rintro e w2 ⟨v2,l2,rfl,hm2,hs2,hb⟩;obtain⟨va2,vc2,rfl,_⟩:=hs2.now.1.shape;refine⟨.sl (fun _=>va2) (fun _=>(aN l2).length) (fun _=>vc2),_,rfl,(Fo.frm _ _ _ _ _ rfl).b,F.step hb (Z:=fun v=>jV v (.slice va2 (aN l2).length vc2) l2) (fun v bv=>hs2.to (Kept.aL bv (S:=fun _=>False) fun k h1 h2=>by omega) |>.now),?_⟩;clear hs2 hb F;refine ga env (Fo.frm _ _ _ _ _ rfl) plLike ?_;intro B w1 F;refine(pR F.now.2.1.1 F.now.2.1.2 F.now.1.1 F.now.1.2 (hfl _ _ hm1) (hfl _ _ hm2)).mono ?_;rintro e w2 ⟨r,rfl,hr,hb⟩;obtain rfl:r=true:=hr.2 (hm1.trans hm2.symm);refine⟨.b (.l true),_,rfl,(Fo.frm _ _ _ _ _ rfl).b,F.on hb,?_⟩;clear hb F hr;refine ga env (Fo.frm _ _ _ _ _ rfl) plLike ?_;intro B w1 F;refine(sT (index:=0) (most:=1048576) F.now.2.2.2.2.1 hl (by omega) (by omega) (by omega)).mono ?_;rintro e w2 ⟨v3,l3,rfl,ho3,hm3,hd3,_,hb⟩;obtain⟨va3,vc3,rfl,_⟩:=ho3.qG.shape;refine⟨.sl (fun _=>va3) (fun _=>(aN l3).length) (fun _=>vc3),_,rfl,(Fo.frm _ _ _ _ _ rfl).b,F.step hb (Z:=fun v=>bJ v 3 (.slice va3 (aN l3).length vc3) (aN l3)/\cA v (fun _=>False) l3) (fun v bv=>⟨ho3.qG.below bv,cA.kept (cA.mono hd3 (T:=fun _=>False) fun _ _ _ _ h=>h.elim) (Kept.aL bv (S:=fun _=>False) fun k h1 h2=>by omega) fun _ h=>h⟩),?_⟩;clear ho3 hd3 hb F;refine ga env (Fo.frm _ _ _ _ _ rfl) plLike ?_;intro B w1 F;have hen:=F.now.2.2.2.2.2.2.l;refine(pR F.now.1.1 F.now.1.2 hen.er.1 hen.er.2 (by have h2:=congrArg List.length hm3;rw[List.length_map,hfr]at h2;omega) (by have h2:=congrArg List.length hen.es;rw[List.length_map]at h2;omega)).mono ?_;rintro e w2 ⟨r,rfl,hr,hb⟩;obtain rfl:r=true:=hr.2 (by rw[hm3,hfr,hen.es]);refine⟨.b (.l true),_,rfl,(Fo.frm _ _ _ _ _ rfl).b,F.on hb,?_⟩;clear hb F hr hen;refine ga env (Fo.frm _ _ _ _ _ rfl) plLike ?_;intro B w1 F;refine(wO _ _ _ D _ F.now.2.2.2.2.2.1.log.dZ).mono ?_;rintro e w2 ⟨rfl,rfl⟩;refine⟨.i .u64 (.x fun _=>D.steps),_,rfl,(Fo.frm _ _ _ _ _ rfl).b,F.on (Below.refl _ _),?_⟩;clear F;refine ga env (Fo.frm _ _ _ _ _ rfl) plLike ?_;refine tC 152 true ?_ ?_
  ·simp[BE.den,cmpB,IE.den]
  refine ga env (Fo.frm _ _ _ _ _ rfl) plLike ?_;intro B w1 F;refine(nO _ _ _ D _ F.now.2.2.2.2.2.1.log.dZ hw).mono ?_;rintro e w2 ⟨v4,rfl,hs4,hb⟩;obtain⟨va4,vc4,rfl,_⟩:=hs4.shape;refine⟨.sl (fun _=>va4) (fun _=>(D.files.map rfV).length) (fun _=>vc4),_,rfl,(Fo.frm _ _ _ _ _ rfl).b,F.step hb (Z:=fun v=>bJ v 3 (.slice va4 (D.files.map rfV).length vc4) (D.files.map rfV)) (fun v bv=>hs4.below bv),?_⟩;clear hs4 hb F;refine ga env (Fo.frm _ _ _ _ _ rfl) plLike ?_;intro B w1 F;refine(nX _ _ D.files _ F.now.1 F.now.2.2.2.2.2.2.2.d (by have:=hw.many;omega)).mono ?_;rintro e w2 ⟨rfl,hb⟩;refine⟨.b (.l true),_,rfl,(Fo.frm _ _ _ _ _ rfl).b,F.on hb,?_⟩;clear hb F;refine ga env (Fo.frm _ _ _ _ _ rfl) plLike ?_;refine fa env (Fo.frm _ _ _ _ _ rfl) ?_;intro B w1 F;exact⟨rfl,F.now.2.2.2.2.2.1⟩

def dC (D:aA)(a:Option Addr)(c:Nat):List AV:=[.i .i64 (.x fun _=>D.room),.sl (fun _=>a) (fun _=>D.files.length) (fun _=>c),.b (.x fun _=>D.down),.i .i64 (.x fun _=>D.armed),.i .u64 (.x fun _=>D.steps)]
def plOpen:Nat->Option Pl
 | 3=>some ⟨[0,0,0,0,5,21,53,127,255,511],64,[.h [0,1,2,3,4,5],.o 6,.h [7,8],.o 9],[true]⟩
 | _=>none
structure YO (db mb tb xb:Nat)(T:Nat->Prop)(w:World)(r:aA × eB × Nat)(w':World):Prop where
 n8:iF w' xb
 kept:Kept w w' (fun k=>aZ db mb tb k\/k=xb)
 rows:∃T':Nat->Prop,(∀k,T k->T' k)/\(∀k,T' k->k<w'.heap.size) /\ ¬T' xb /\ ∃el p vp,Sf (fun k=>T' k\/k=xb) w' (VR r.1 r.2.1 el p)/\Box w' (xb,AV.denL (fun _=>0) (.pa (fun _=>⟨db,0,none⟩)::vp::vA r.1 r.2.1 p)) /\
  ((r.2.2≠0/\vp = .v (.pointer none)/\aG w' db mb tb r.1)\/(r.2.2=0 /\ ∃b ev fv el2,vp = .pa (fun _=>⟨b.vb,0,none⟩)/\b.db=db/\b.mb=mb/\b.tb=tb/\bG w' b ev fv el2 r.1 r.2.1 /\ ¬oO b ev fv xb /\ ¬b.X xb /\ ∀k,oO b ev fv k->T' k))
theorem aJq {w:World}{xb db mb tb:Nat}{D:aA}{a:Option Addr}{c:Nat}{n:Int}{T:Nat->Prop}{x0 x1 x2 x3 x4 x5 x6 x7 x8 x9 x10 x11:Value}(hx:Box w (xb,AV.denL (fun _=>0) (.pa (fun _=>⟨db,0,none⟩) :: .v x11::dC D a c ++ [.v x0,.v x1,.v x2,.v x3,.v x4,.v x5,.v x6,.v x7,.v x8,.v x9,.v x10])))(h8:iF w xb)(hd:aG w db mb tb D)(hf:DF D n)(hn:n+2000<=1000000000)
  (hT:∀k,aZ db mb tb k->T k) (hT1:∀k,T k->k<w.heap.size) (hT2:¬T xb) (hr:Sf (fun k=>T k\/k=xb) w (DR D a c)) :
  Calls Tryz.prog 36 #[.pointer (some ⟨xb,0,none⟩)] w fun e w'=>e = .returned (.tuple #[.bool true,.bool (decide ((iX D).2.2≠0))])/\YO db mb tb xb T w (iX D) w':=by
 have hxl:=hx.lt;have hno:¬aZ db mb tb xb:=fun e=>hT2 (hT _ e);have hvo:∀w1,aG w1 db mb tb D->Calls Tryz.prog 41 #[.pointer (some ⟨db,0,none⟩)] w1 (aGB db mb tb (iX D) w1):=fun w1 h=>aEm h hf hn;have hqo:∀S w,In S w (DR D a c)->Calls Tryz.prog 91 #[dv D a c] w (QO S (iX D) w):=fun S w h=>aI5 h hf hn;generalize iX D=r at hvo hqo ⊢;obtain⟨D',V',er⟩:=r;simp only at hvo hqo ⊢;refine enter (F:=Fk [xb] w) (fun _=>xb) [.p 0 0] [(.pa (fun _=>⟨db,0,none⟩) :: .v x11::dC D a c ++ [.v x0,.v x1,.v x2,.v x3,.v x4,.v x5,.v x6,.v x7,.v x8,.v x9,.v x10])] Tryz.func36 rfl rfl (Fk.one (by rw[AV.kV (C:=fun _=>xb) (by rfl)]at hx;exact hx) h8) 44 rfl ?_;refine ga env (Fk.frm _ w) plOpen ?_;intro B w1 F;obtain rfl:xb=B 0:=(List.cons_prefix_cons.1 F.pre).1;have k01:Kept w w1 (fun k=>k=B 0):=F.old.mono fun k _ hk=>List.mem_singleton.1 hk;have hd1:=hd.cR k01 (fun k h1 h2=>hno (h2 ▸ h1)) (fun k e=>e ▸ h8);refine(hvo w1 hd1).mono ?_;intro e w2 hO;by_cases h0:er=0
 ·subst h0;obtain⟨b,ev,fv,el2,rfl,rfl,rfl,rfl,hv,hk,ho,hX⟩:=hO.1 rfl;have hvx:¬oO b ev fv (B 0):=fun e=>(ho _ e).elim hno fun q=>by have:=k01.size;omega
  have hXx:¬b.X (B 0):=fun e=>by have:=hX _ e;have:=k01.size;omega
  refine⟨.t [.pa (fun _=>⟨b.vb,0,none⟩),.i .i64 (.l 0)],Fk [B 0] w2,rfl,(Fk.frm _ _).b,F.jU hk (fun q hq=>by obtain rfl:=List.mem_singleton.1 hq;exact hno),?_⟩;have k02:Kept w w2 (fun k=>T k\/k=B 0):=(k01.mono fun _ _ e=>.inr e).trans (hk.mono fun k _ e=>.inl (hT k e));have hr2:=hr.wide k02;have kB:Kept w w2 (fun k=>aZ b.db b.mb b.tb k\/k=B 0):=(k01.mono fun _ _ e=>.inr e).trans (hk.mono fun k _ e=>.inl e);have z1:=k01.size;generalize hxb:B 0=xb at *
  clear F hO;refine ga env (Fk.frm _ w2) plOpen ?_;intro B3 w3 F;obtain rfl:xb=B3 0:=(List.cons_prefix_cons.1 F.pre).1;have k23:Kept w2 w3 (fun k=>k=B3 0):=F.old.mono fun k _ hk=>List.mem_singleton.1 hk;have z2:=k02.size;have z3:=k23.size;refine(hqo (fun k=>(T k\/k=B3 0)\/(w.heap.size<=k/\k<w2.heap.size)) w3 ⟨fun k hk=>?_,hr2.to (k23.mono fun _ _ e=>.inl (.inr e))⟩).mono ?_
  ·rcases hk with (hk|rfl)|hk
   ·have:=hT1 k hk;omega
   ·omega
   ·omega
  rintro e w4 ⟨el,p,rfl,hs,hb⟩;refine⟨.t [.g (vA D' V' p),.i .i64 (.l 0)],Fk [B3 0] w4,rfl,(Fk.frm _ _).b,(F.call hb).now,?_⟩;have n2:=F.n0 _ List.mem_cons_self;have n4:=(F.call hb).n8 _ List.mem_cons_self;have kA:Kept w w4 (fun k=>aZ b.db b.mb b.tb k\/k=B3 0):=((kB.trans (k23.mono fun _ _ e=>.inr e)).trans (Kept.aL hb fun k h1 h2=>by omega));have z4:=hb.size;generalize hxb2:B3 0=xb at *
  clear F;refine ga env (Fk.frm _ w4) plOpen ?_;refine fa env (Fk.frm _ w4) ?_;intro B5 w5 F;obtain rfl:xb=B5 0:=(List.cons_prefix_cons.1 F.pre).1;have k45:Kept w4 w5 (fun k=>k=B5 0):=F.old.mono fun k _ hk=>List.mem_singleton.1 hk;have z5:=k45.size;refine⟨rfl,F.n8 _ List.mem_cons_self,kA.trans (k45.mono fun _ _ e=>.inr e),⟨fun k=>T k\/(w.heap.size<=k/\k<w2.heap.size),fun k h=>.inl h,fun k h=>?_,fun h=>?_,el,p,_,(hs.to (k45.mono fun _ _ e=>.inl (.inr e))).sub fun k _ h=>?_,by have:=F.bx 0 _ rfl;rw[AV.kV (C:=fun _=>0) (by rfl)]at this;exact this,.inr ⟨rfl,b,ev,fv,el2,rfl,rfl,rfl,rfl,((hv.aside k23 hvx hXx n2).below hb).aside k45 hvx hXx n4,hvx,hXx,fun k h=>?_⟩⟩⟩
  ·rcases h with h|h
   ·have:=hT1 k h;omega
   ·omega
  ·rcases h with h|h
   ·exact hT2 h
   ·omega
  ·rcases h with (h|h)|h
   ·exact .inl (.inl h)
   ·exact .inr h
   ·exact .inl (.inr h)
  ·rcases ho k h with h1|h1
   ·exact .inl (hT k h1)
   ·exact .inr ⟨by omega,hv.mI h⟩
 ·obtain⟨rfl,hd2,hk⟩:=hO.2 h0;refine⟨.t [.v (.pointer none),.i .i64 (.x fun _=>er)],Fk [B 0] w2,rfl,(Fk.frm _ _).b,F.jU hk (fun q hq=>by obtain rfl:=List.mem_singleton.1 hq;exact hno),?_⟩;have k02:Kept w w2 (fun k=>T k\/k=B 0):=(k01.mono fun _ _ e=>.inr e).trans (hk.mono fun k _ e=>.inl (hT k e));have hr2:=hr.wide k02;have kB:Kept w w2 (fun k=>aZ db mb tb k\/k=B 0):=(k01.mono fun _ _ e=>.inr e).trans (hk.mono fun k _ e=>.inl e);have z1:=k01.size;generalize hxb:B 0=xb at *
  clear F hO;refine ga env (Fk.frm _ w2) plOpen ?_;intro B3 w3 F;obtain rfl:xb=B3 0:=(List.cons_prefix_cons.1 F.pre).1;have k23:Kept w2 w3 (fun k=>k=B3 0):=F.old.mono fun k _ hk=>List.mem_singleton.1 hk;have z2:=k02.size;have z3:=k23.size;refine(hqo (fun k=>(T k\/k=B3 0)\/(w.heap.size<=k/\k<w2.heap.size)) w3 ⟨fun k hk=>?_,hr2.to (k23.mono fun _ _ e=>.inl (.inr e))⟩).mono ?_
  ·rcases hk with (hk|rfl)|hk
   ·have:=hT1 k hk;omega
   ·omega
   ·omega
  rintro e w4 ⟨el,p,rfl,hs,hb⟩;refine⟨.t [.g (vA D' V' p),.i .i64 (.x fun _=>er)],Fk [B3 0] w4,rfl,(Fk.frm _ _).b,(F.call hb).now,?_⟩;have n2:=F.n0 _ List.mem_cons_self;have n4:=(F.call hb).n8 _ List.mem_cons_self;have kA:Kept w w4 (fun k=>aZ db mb tb k\/k=B3 0):=((kB.trans (k23.mono fun _ _ e=>.inr e)).trans (Kept.aL hb fun k h1 h2=>by omega));have z4:=hb.size;generalize hxb2:B3 0=xb at *
  clear F;refine ga env (Fk.frm _ w4) plOpen ?_;refine tC 36 true ?_ ?_
  ·simp[BE.den,cmpB,IE.den]
  refine ga env (Fk.frm _ w4) plOpen ?_;refine fa env (Fk.frm _ w4) ?_;intro B5 w5 F;obtain rfl:xb=B5 0:=(List.cons_prefix_cons.1 F.pre).1;have k45:Kept w4 w5 (fun k=>k=B5 0):=F.old.mono fun k _ hk=>List.mem_singleton.1 hk;have z5:=k45.size;refine⟨by simp[resV,AV.den,AV.denL,BE.den,cmpB,IE.den,h0],F.n8 _ List.mem_cons_self,kA.trans (k45.mono fun _ _ e=>.inr e),⟨fun k=>T k\/(w.heap.size<=k/\k<w2.heap.size),fun k h=>.inl h,fun k h=>?_,fun h=>?_,el,p,_,(hs.to (k45.mono fun _ _ e=>.inl (.inr e))).sub fun k _ h=>?_,by have:=F.bx 0 _ rfl;rw[AV.kV (C:=fun _=>0) (by rfl)]at this;exact this,.inl ⟨h0,rfl,((hd2.cR k23 (fun k h1 h2=>hno (h2 ▸ h1)) (fun k e=>e ▸ n2)).below hb).cR k45 (fun k h1 h2=>hno (h2 ▸ h1)) (fun k e=>e ▸ n4)⟩⟩⟩
  ·rcases h with h|h
   ·have:=hT1 k h;omega
   ·omega
  ·rcases h with h|h
   ·exact hT2 h
   ·omega
  ·rcases h with (h|h)|h
   ·exact .inl (.inl h)
   ·exact .inr h
   ·exact .inl (.inr h)

structure aGx where
 nm:ByteArray
 da:Option Addr
 dn:Nat
 dc:Nat
 sy:Bool
def aDz (r:aGx):List Value:=[.string r.nm,.slice r.da r.dn r.dc,.bool r.sy]
def aA1 (w:World)(r:aGx):Prop:=r.dn<=2097152 -> ∃l,l.length=r.dn/\Bytes w (.slice r.da r.dn r.dc) l
def plVo:Nat->Option Pl
 | 9=>some ⟨[0,1,3,7,0,16,0,64,255],0,[.h [0,1,2,3,4,5,6,7],.o 8],[]⟩
 | 10=>some ⟨[0,0,2,6,14,30,0,64,0,256,768,2046,4094,8190,8190,16383,49151,114687,245759],1024,[.h [0,1,2,3,4,5,6,7,8,9],.o 10,.o 11,.h [12,13,14,15,16,17],.o 18],[]⟩
 | 12=>some ⟨[0,1,3,7,0,16,63],0,[.h [0,1,2,3,4,5],.o 6],[]⟩
 | 13=>some ⟨[0,0,2,6,14,30,0,64,254,510,1022,1022,2047,6143,14335,30719],0,[.h [0,1,2,3,4,5,6,7],.o 8,.h [9,10,11,12,13,14],.o 15],[]⟩
 | 16=>some ⟨[0,1,3,7,15,31,63,127,7,263,775,1799,3847,7943,16383,32767,65535],128,[.h [0,1,2,3,4,5,6,8,9,10,11,12,13],.o 7,.o 14,.h [15,16]],[]⟩
 | _=>none
structure LI where
 i:Nat
 D:aA
 a:Option Addr
 c:Nat
 w1:World
 x:Nat->Value
 xb:Nat
def liL (la:Option Addr)(ln lc index:Nat)(most:Int)(j:LI):List (Nat × AV):=[(0,.sl (fun _=>la) (fun _=>ln) (fun _=>lc)),(1,.i .u64 (.x fun _=>index)),(2,.i .i64 (.x fun _=>most)),(6,.b (.l false)),(7,.p 0 0),(21,.sl (fun _=>la) (fun _=>ln) (fun _=>lc)),(22,.i .i64 (.x fun _=>(ln:Int))),(23,.i .i64 (.x fun _=>(j.i:Int)))]
def liS (la:Option Addr)(ln lc index:Nat)(most:Int)(db:Nat)(j:LI):St:=⟨mkT j.x (liL la ln lc index most j) 0 122,[.pa (fun _=>⟨db,0,none⟩) :: .v (.pointer none)::dC j.D j.a j.c ++ [.i .u64 (.l 0),.i .i64 (.l 0),.i .u64 (.l 0),.i .u64 (.l 0),.v (.slice none 0 0),.v (.slice none 0 0),.i .u64 (.l 0),.v (.slice none 0 0),.v (.slice none 0 0),.i .i64 (.l 0),.b (.l false)]]⟩
structure LiF (w:World)(db mb tb xb:Nat)(j:LI)(v:World)(L:Bx):Prop where
 f:Fk [xb] j.w1 v L
 bel:Below w.heap.size w j.w1
 new:∀k,aZ db mb tb k\/k=xb->w.heap.size<=k
 nx:¬aZ db mb tb xb
 d:aG j.w1 db mb tb j.D
 df:DF j.D (2*j.i)
 r:Sf (fun k=>aZ db mb tb k\/k=xb) j.w1 (DR j.D j.a j.c)
 le:j.i<=20
theorem LiF.frm (w:World)(db mb tb xb:Nat)(j:LI):Frm (LiF w db mb tb xb j) ⟨true,0⟩ :=
 ⟨fun F=>(Fk.frm _ _).box F.f,fun F _ _ _ _ _ hi hl h8 hr=>⟨(Fk.frm _ _).set F.f hi hl h8 hr,F.bel,F.new,F.nx,F.d,F.df,F.r,F.le⟩,fun F _ _ h8=>⟨(Fk.frm _ _).new F.f h8,F.bel,F.new,F.nx,F.d,F.df,F.r,F.le⟩,fun F=>⟨(Fk.frm _ _).drew F.f,F.bel,F.new,F.nx,F.d,F.df,F.r,F.le⟩⟩
theorem LiF.low {w:World}{db mb tb xb:Nat}{j:LI}{v:World}{L:Bx}(F:LiF w db mb tb xb j v L):Below w.heap.size w v :=
 F.bel.trans (F.f.old.below F.bel.size fun k hk=>by have e:k=xb:=List.mem_singleton.1 hk;exact F.new _ (.inr e))
theorem LiF.call {w:World}{db mb tb xb:Nat}{j:LI}{v v':World}{L:Bx}(F:LiF w db mb tb xb j v L)(hb:Below v.heap.size v v'):LiF w db mb tb xb j v' L:=⟨F.f.call hb,F.bel,F.new,F.nx,F.d,F.df,F.r,F.le⟩
theorem DF.of {w:World}{db mb tb:Nat}{E:aA}{n:Int}(h:aG w db mb tb E)(hg:aY E)(hc:Calm E)(hs:E.steps<=n):DF E n :=
 ⟨hg,hc,(let ⟨_,hm,_⟩:=h.fs;hm.rising),fun f hf=>(h.byt f hf).1,hs⟩
theorem aEe {D:aA}(h:Calm D)(n:ByteArray):Calm (syncD D n).1:=by
 cases e:aE n D.files with
 | none=>unfold syncD;rw[e];exact h
 | some f=>exact(pZ h e).2.1
theorem aIi {w:World}{la:Option Addr}{ln lc:Nat}{l:List aGx}(hl:bJ w 3 (.slice la ln lc) (l.map aDz))(hok:∀r ∈ l,aA1 w r)(hln:l.length=ln)(index:Nat)(hi:(index:Int)<18446744073709551616)(most:Int)(hmo:most<=9223372036854775807) :
  Calls Tryz.prog 6 #[.slice la ln lc,.int .u64 index,.int .i64 most] w fun e w'=>e = .returned (.bool true)/\Below w.heap.size w w':=by
 refine enter (F:=Fk [] w) (fun _=>0) [.sl (fun _=>la) (fun _=>ln) (fun _=>lc),.i .u64 (.x fun _=>index),.i .i64 (.x fun _=>most)] [] Tryz.func6 rfl rfl (Fk.none w) 119 rfl ?_;refine ga env (Fk.frm _ w) plVo ?_;intro B w1 F;refine(aKJ 1048576 w1 (by decide) (by decide)).mono ?_;rintro e w2 ⟨db,mb,tb,rfl,hd,hb,nd,nm,nt⟩;have b1:Below w.heap.size w w1:=F.old.below (Nat.le_refl _) nofun;have b2:=b1.trans (hb.mono b1.size);have hnew:∀k,aZ db mb tb k->w.heap.size<=k:=fun k hk=>by have:=b1.size;rcases hk with rfl|rfl|rfl<;>omega
 refine⟨.pa (fun _=>⟨db,0,none⟩),Fk [] w2,rfl,(Fk.frm _ _).b,Fk.none w2,?_⟩;clear F hb nd nm nt b1;refine ga env (Fk.frm _ w2) plVo ?_;intro B w3 F;have b3:=b2.trans ((F.old.below (Nat.le_refl _) nofun).mono b2.size);have hd3:=hd.cR F.old (fun _ _ h=>by cases h) (fun _ h=>by cases h);refine(aKU (fun _=>True) 1048576 w3).mono ?_;rintro e w4 ⟨a,c,rfl,hs,hb⟩;have b4:=b3.trans (hb.mono b3.size);have hd4:=hd3.below hb;obtain⟨D0,hD0⟩:∃D0:aA,D0=⟨1048576,[],false,-1,0⟩:=⟨_,rfl⟩;rw[<- hD0]at hs hd4;have hdf0:DF D0 (2*((0:Nat):Int)):=by subst hD0;exact⟨⟨⟨by decide,by decide,by decide,by decide,by decide,by decide,by decide,fun f h=>by cases h⟩,by decide,by decide⟩,⟨rfl,rfl⟩,List.Pairwise.nil,nofun,by decide⟩
 refine⟨dA D0 a c,Fk [] w4,by rw[<- hD0];rfl,(Fk.frm _ _).b,Fk.none w4,?_⟩;clear F hb hd hd3 b2 b3;refine ga env (Fk.frm _ w4) plVo ?_;refine⟨fun q=>?_,fun q=>?_⟩
 ·refine ga env (Fk.frm _ w4) plVo ?_;intro B w5 F;have b5:=b4.trans ((F.old.below (Nat.le_refl _) nofun).mono b4.size);refine(lH w5).mono ?_;rintro e w6 ⟨rfl,hb⟩;have b6:=b5.trans (hb.mono b5.size);refine⟨.b (.l true),Fk _ w6,rfl,(Fk.frm _ _).b,(F.call hb).now,?_⟩;have F0n:=F.new;clear F hb;refine ga env (Fk.frm _ w6) plVo ?_;refine fa env (Fk.frm _ w6) ?_;intro B w7 F;refine⟨rfl,b6.trans (F.old.below b6.size fun k hk=>?_)⟩;obtain rfl:=List.mem_singleton.1 hk;exact Nat.le_trans b4.size ((F0n _ List.mem_cons_self).resolve_left nofun)
 have hln21:¬(20:Int)<ln:=by simpa [BE.den,cmpB,IE.den] using q
 have hln20:ln<=20:=by omega
 clear q;refine ga env (Fk.frm _ w4) plVo ?_;refine aIO (fun j=>LiF w db mb tb j.xb j) (liS la ln lc index most db) (fun j=>ln-j.i) 122 (fun B w5 F=>?_) ?_
 ·have b5:=b4.trans ((F.old.below (Nat.le_refl _) nofun).mono b4.size);have hx4:w4.heap.size<=B 0:=(F.new _ List.mem_cons_self).resolve_left nofun;have z4:=b4.size;have hd5:=hd4.cR F.kept (fun k h1 h2=>by have e:k=B 0:=List.mem_singleton.1 h2;have:=hd4.lt3 _ h1;omega) F.n0;exact⟨⟨0,D0,a,c,w5,_,B 0⟩,liL la ln lc index most ⟨0,D0,a,c,w5,fun _=>undef,B 0⟩,rfl,(And.intro rfl (And.intro rfl (And.intro rfl (And.intro rfl (And.intro rfl (And.intro rfl (And.intro rfl (And.intro rfl True.intro)))))))),F.now,b5,fun k hk=>hk.elim (hnew k) fun (e:k=B 0)=>by omega,fun e=>by have:=hd4.lt3 (B 0) e;omega,hd5,hdf0,(hs.to (F.kept.mono fun _ _ _=>trivial)).sub fun _ _ _=>trivial,Nat.zero_le _⟩
 clear hd4 hs hnew b4 hD0 hdf0 a c D0 w4 w3 w2 w1;intro j J hJ;refine ga env (LiF.frm w db mb tb j.xb j) plVo ?_;refine⟨fun q=>?_,fun q=>?_⟩
 ·have hlt:j.i<ln:=by simpa [BE.den,cmpB,IE.den] using q
  clear q;obtain⟨r,hr⟩:∃r,l[j.i]? = some r:=⟨_,List.getElem?_eq_getElem (by omega)⟩;have hrm:r ∈ l:=List.mem_of_getElem? hr;obtain⟨bb,oo,rfl,hbl,hcs⟩:=hl.at (j:=j.i) (by rw[List.length_map];omega);have hrow:(l.map aDz)[j.i]'(by rw[List.length_map];omega)=aDz r:=by
   rw[List.getElem_map]
   congr 1
   exact Option.some.inj ((List.getElem?_eq_getElem _).symm.trans hr)
  rw[hrow]at hcs;refine ga env (LiF.frm w db mb tb j.xb j) plVo ?_;refine aJw (.pa fun _=>⟨bb,oo+j.i*3,none⟩) (fun B v F=>aIJ (e:=85) (n:=3) rfl Tryz.underlying65 (by kernel_rfl) (by rw[St.dJ];rfl) (by rw[St.dJ];rfl) hlt) ?_;refine ga env (LiF.frm w db mb tb j.xb j) plVo ?_;refine aJw (.g [.st fun _=>r.nm,.sl (fun _=>r.da) (fun _=>r.dn) (fun _=>r.dc),.b (.x fun _=>r.sy)]) (fun B v F=>aJ6 (cs:=aDz r) (b:=bb) (off:=oo+j.i*3) rfl (by rw[St.dJ];rfl) (fun k y hk=>?_) Tryz.underlying85 rfl (by kernel_rfl)) ?_
  ·have bv:Below w.heap.size w v:=F.bel.trans (F.f.old.below F.bel.size fun k hk=>by obtain rfl:=List.mem_singleton.1 hk;exact F.new _ (.inr rfl));exact Below.at bv (hcs k y hk) hbl
  refine ga env (LiF.frm w db mb tb j.xb j) plVo ?_;by_cases hnm:r.nm.size<=100
  ·refine tC 31 false ?_ ?_
   ·show decide ((r.nm.size:Int) > 100)=false;exact decide_eq_false (by omega)
   refine ga env (LiF.frm w db mb tb j.xb j) plVo ?_;refine⟨fun q=>?_,fun q=>?_⟩
   ·refine ga env (LiF.frm w db mb tb j.xb j) plVo ?_;intro B v F;refine(lH v).mono ?_;rintro e v2 ⟨rfl,hb⟩;refine⟨.b (.l true),_,rfl,(LiF.frm w db mb tb j.xb j).b,F.call hb,?_⟩;clear F hb;refine ga env (LiF.frm w db mb tb j.xb j) plVo ?_;refine fa env (LiF.frm w db mb tb j.xb j) ?_;intro B v F;exact⟨rfl,F.low⟩
   ·have hdn:¬(40000:Int)<r.dn:=by simpa [BE.den,cmpB,IE.den] using q
    clear q;refine ga env (LiF.frm w db mb tb j.xb j) plVo ?_;intro B v F;obtain⟨bs,hbl2,hbs⟩:=hok r hrm (by omega);have hx0:B 0=j.xb:=(List.cons_prefix_cons.1 F.f.pre).1.symm;have hb1:j.w1.heap.size<=B 1\/B 1=j.xb:=(F.f.new (B 1) (List.mem_cons_of_mem _ List.mem_cons_self)).elim (fun h=>.inr (List.mem_singleton.1 h)) .inl;have hb1:j.w1.heap.size<=B 1:=hb1.resolve_right fun e=>by have:=F.f.inj 1 0 _ _ rfl rfl (e.trans hx0.symm);omega
    have hown:∀k,aZ db mb tb k->k<j.w1.heap.size:=fun k hk=>F.d.lt3 k hk;have hn0:¬aZ db mb tb (B 0):=by rw[hx0];exact F.nx
    have hn1:¬aZ db mb tb (B 1):=fun e=>by have:=hown _ e;omega
    have hnb:∀k,aZ db mb tb k -> ¬(k ∈ [B 0,B 1]):=fun k h1 h2=>by
     rcases List.mem_cons.1 h2 with rfl|h2
     ·exact hn0 h1
     ·obtain rfl:=List.mem_singleton.1 h2;exact hn1 h1
    have bv:=F.low;have hdv:=F.d.cR F.f.kept hnb F.f.n0;have hwx:w.heap.size<=B 0:=by rw[hx0];exact F.new _ (.inr rfl)
    have hwb:w.heap.size<=B 1:=Nat.le_trans F.bel.size hb1;have hwo:∀k,aZ db mb tb k->w.heap.size<=k:=fun k hk=>F.new k (.inl hk);have hst:j.D.steps<=2*j.i:=F.df.st;have hgo:=F.df.fX.append r.nm bs (by omega);have hca:=rL F.df.calm r.nm bs;have hap:=wJ db mb tb j.D r.nm _ bs v hdv F.df.fX (hbs.below bv) (by unfold maxLen;omega);have hqa:∀S u,In S u (DR j.D j.a j.c)->Calls Tryz.prog 33 #[dv j.D j.a j.c,.string r.nm,.string (bX bs)] u (QD S (aV j.D r.nm bs) u):=fun S u h=>aHx h F.df.fX r.nm bs (by omega);have hrv:Sf (fun k=>(aZ db mb tb k\/k=j.xb)\/(j.w1.heap.size<=k/\k<v.heap.size)) v (DR j.D j.a j.c):=F.r.wide (F.f.old.mono fun k _ hk=>.inr (List.mem_singleton.1 hk));generalize aV j.D r.nm bs=rr at hgo hca hap hqa;obtain⟨E,er⟩:=rr;simp only at hgo hca hap hqa;refine hap.mono ?_;rintro e v2 ⟨rfl,hd2,hk⟩;have b2:Below w.heap.size w v2:=bv.trans (hk.below bv.size hwo);refine⟨.i .i64 (.x fun _=>er),Fk [B 0,B 1] v2,rfl,(Fk.frm _ _).b,F.f.jU hk (fun p hp=>?_),?_⟩
    ·rcases List.mem_cons.1 hp with rfl|hp
     ·exact hn0
     ·obtain rfl:=List.mem_singleton.1 hp;exact hn1
    have hb0v:B 0<v.heap.size:=F.f.lt _ List.mem_cons_self;have hb1v:B 1<v.heap.size:=F.f.lt _ (List.mem_cons_of_mem _ List.mem_cons_self);have hr2:Sf (fun k=>(aZ db mb tb k\/k=j.xb)\/(j.w1.heap.size<=k/\k<v.heap.size)) v2 (DR j.D j.a j.c):=hrv.to (hk.mono fun _ _ e=>.inl (.inl e));clear hap hrv F hdv;refine ga env (Fk.frm _ _) plVo ?_;refine aLc (Fk.frm _ _) (.st fun _=>bX bs) (fun B3 u F=>?_) ?_
    ·have bu:Below w.heap.size w u:=b2.trans (F.old.below b2.size fun k hk=>?_)
     ·simp only[execOp];refine iE ?_;rw[St.dJ];exact(hbs.below bu).str Tryz.underlying36 Tryz.underlying5 Tryz.underlying9
     ·rcases List.mem_cons.1 hk with rfl|hk
      ·exact hwx
      ·obtain rfl:=List.mem_singleton.1 hk;exact hwb
    refine ga env (Fk.frm _ _) plVo ?_;intro B3 v3 F;have zv2:v.heap.size<=v2.heap.size:=hk.size
    rename World=>u3
    obtain hq0:B 0=B3 0/\B 1=B3 1:=⟨(List.cons_prefix_cons.1 F.pre).1,(List.cons_prefix_cons.1 (List.cons_prefix_cons.1 F.pre).2).1⟩;have z3:=F.old.size;have k3:Kept v2 u3 (fun k=>(aZ db mb tb k\/k=j.xb)\/(j.w1.heap.size<=k/\k<v.heap.size)):=F.old.mono fun k _ hk=>by
     rcases List.mem_cons.1 hk with rfl|hk
     ·exact .inl (.inr hx0)
     ·obtain rfl:=List.mem_singleton.1 hk;exact .inr ⟨hb1,hb1v⟩
    have b3:Below w.heap.size w u3:=b2.trans (F.old.below b2.size fun k hk=>by
     rcases List.mem_cons.1 hk with rfl|hk
     ·exact hwx
     ·obtain rfl:=List.mem_singleton.1 hk;exact hwb)
    have hd3:=hd2.cR F.kept (fun k h1 h2=>by rcases F.new k h2 with h2|h2;exact hnb k h1 h2;have:=hd2.lt3 k h1;omega) F.n0;refine(hqa (fun k=>(aZ db mb tb k\/k=j.xb)\/(j.w1.heap.size<=k/\k<v.heap.size)) u3 ⟨fun k hk=>?_,hr2.to k3⟩).mono ?_
    ·rcases hk with (hk|rfl)|hk
     ·have:=hd3.lt3 k hk;omega
     ·rw[<- hx0];exact Nat.lt_of_lt_of_le hb0v (Nat.le_trans zv2 z3)
     ·omega
    rintro e u4 ⟨a4,c4,rfl,hs4,hb4⟩;have b4:=b3.trans (hb4.mono b3.size);have hd4:=hd3.below hb4;refine⟨.t [dA E a4 c4,.i .i64 (.x fun _=>er)],Fk [B 0,B 1] u4,rfl,(Fk.frm _ _).b,by have q:=(F.call hb4).now;rw[hq0.1,hq0.2];exact q,?_⟩;have z4:v.heap.size<=u4.heap.size:=Nat.le_trans (Nat.le_trans zv2 z3) hb4.size;clear F hb4 hd3 b3 k3 z3 hq0 hd2 b2 hr2 hk;refine ga env (Fk.frm _ _) plVo ?_;refine⟨fun q=>?_,fun q=>?_⟩
    ·refine ga env (Fk.frm _ _) plVo ?_;intro B5 u5 F;have hz5:B 0=B5 0/\B 1=B5 1:=⟨(List.cons_prefix_cons.1 F.pre).1,(List.cons_prefix_cons.1 (List.cons_prefix_cons.1 F.pre).2).1⟩;have k5:Kept u4 u5 (fun k=>(aZ db mb tb k\/k=j.xb)\/(j.w1.heap.size<=k/\k<v.heap.size)):=F.old.mono fun k _ hk=>by
      rcases List.mem_cons.1 hk with rfl|hk
      ·exact .inl (.inr hx0)
      ·obtain rfl:=List.mem_singleton.1 hk;exact .inr ⟨hb1,hb1v⟩
     have b5:Below w.heap.size w u5:=b4.trans (F.old.below b4.size fun k hk=>by
      rcases List.mem_cons.1 hk with rfl|hk
      ·exact hwx
      ·obtain rfl:=List.mem_singleton.1 hk;exact hwb)
     have hd5:=hd4.cR F.kept (fun k h1 h2=>by rcases F.new k h2 with h2|h2;exact hnb k h1 h2;have:=hd4.lt3 k h1;omega) F.n0;have hg2:=hgo.1.sync r.nm (by have:=hgo.2;omega);have hc2:=aEe hca r.nm;have hsy:=iY db mb tb E r.nm u5 hd5 hgo.1.wf (by unfold maxLen;omega);have hqs:∀S u,In S u (DR E a4 c4)->Calls Tryz.prog 35 #[dv E a4 c4,.string r.nm] u (QD S (syncD E r.nm) u):=fun S u h=>xW h hgo.1 r.nm;generalize syncD E r.nm=r2 at hg2 hc2 hsy hqs;obtain⟨E2,er2⟩:=r2;simp only at hg2 hc2 hsy hqs;refine hsy.mono ?_;rintro e u6 ⟨rfl,hd6,hk6⟩;have b6:Below w.heap.size w u6:=b5.trans (hk6.below b5.size hwo);have hs6:=(hs4.to k5).to (hk6.mono fun _ _ e=>.inl (.inl e));have hq6:=F.jU hk6 (fun p hp=>by
      rcases List.mem_cons.1 hp with rfl|hp
      ·show ¬aZ db mb tb (B5 0);rw[<- hz5.1];exact hn0
      ·obtain rfl:=List.mem_singleton.1 hp;show ¬aZ db mb tb (B5 1);rw[<- hz5.2];exact hn1)
     refine⟨.i .i64 (.x fun _=>er2),Fk [B 0,B 1] u6,rfl,(Fk.frm _ _).b,by rw[hz5.1,hz5.2];exact hq6,?_⟩;have z6:v.heap.size<=u6.heap.size:=Nat.le_trans (Nat.le_trans z4 k5.size) hk6.size;clear F hd5 b5 hs4 hd4 b4 hsy hk6 hz5 hq6 k5;refine ga env (Fk.frm _ _) plVo ?_;intro B7 u7 F;have hz7:B 0=B7 0/\B 1=B7 1:=⟨(List.cons_prefix_cons.1 F.pre).1,(List.cons_prefix_cons.1 (List.cons_prefix_cons.1 F.pre).2).1⟩;have k7:Kept u6 u7 (fun k=>(aZ db mb tb k\/k=j.xb)\/(j.w1.heap.size<=k/\k<v.heap.size)):=F.old.mono fun k _ hk=>by
      rcases List.mem_cons.1 hk with rfl|hk
      ·exact .inl (.inr hx0)
      ·obtain rfl:=List.mem_singleton.1 hk;exact .inr ⟨hb1,hb1v⟩
     have b7:Below w.heap.size w u7:=b6.trans (F.old.below b6.size fun k hk=>by
      rcases List.mem_cons.1 hk with rfl|hk
      ·exact hwx
      ·obtain rfl:=List.mem_singleton.1 hk;exact hwb)
     have hd7:=hd6.cR F.kept (fun k h1 h2=>by rcases F.new k h2 with h2|h2;exact hnb k h1 h2;have:=hd6.lt3 k h1;omega) F.n0;have z7:=k7.size;refine(hqs (fun k=>(aZ db mb tb k\/k=j.xb)\/(j.w1.heap.size<=k/\k<v.heap.size)) u7 ⟨fun k hk=>?_,hs6.to k7⟩).mono ?_
     ·rcases hk with (hk|rfl)|hk
      ·have:=hd7.lt3 k hk;omega
      ·rw[<- hx0];exact Nat.lt_of_lt_of_le hb0v (Nat.le_trans z6 z7)
      ·omega
     rintro e u8 ⟨a8,c8,rfl,hs8,hb8⟩;have b8:=b7.trans (hb8.mono b7.size);have hd8:=hd7.below hb8;refine⟨.t [dA E2 a8 c8,.i .i64 (.x fun _=>er2)],Fk [B 0,B 1] u8,rfl,(Fk.frm _ _).b,by have q:=(F.call hb8).now;rw[hz7.1,hz7.2];exact q,?_⟩;clear F hb8 hd7 b7 k7 z7 hz7 hd6 b6 hs6;refine ga env (Fk.frm _ _) plVo ?_;refine aHc 122 hJ fun B7 u7 F=>?_;have hz0:B 0=B7 0:=(List.cons_prefix_cons.1 F.pre).1;have k7:Kept u8 u7 (fun k=>(aZ db mb tb k\/k=j.xb)\/(j.w1.heap.size<=k/\k<v.heap.size)):=F.old.mono fun k _ hk=>by
      rcases List.mem_cons.1 hk with rfl|hk
      ·exact .inl (.inr hx0)
      ·obtain rfl:=List.mem_singleton.1 hk;exact .inr ⟨hb1,hb1v⟩
     have b7:Below w.heap.size w u7:=b8.trans (F.old.below b8.size fun k hk=>by
      rcases List.mem_cons.1 hk with rfl|hk
      ·exact hwx
      ·obtain rfl:=List.mem_singleton.1 hk;exact hwb)
     have hd7:=hd8.cR F.kept (fun k h1 h2=>by rcases F.new k h2 with h2|h2;exact hnb k h1 h2;have:=hd8.lt3 k h1;omega) F.n0;have hw23:IntKind.i64.wrap ((j.i:Int)+1)=((j.i+1:Nat):Int):=by rw[IntKind.wrap_i64];omega
     have h23:Value.int .i64 ((j.i+1:Nat):Int)=Value.int .i64 (IntKind.i64.wrap ((j.i:Int)+1)):=by rw[hw23]
     exact⟨⟨j.i+1,E2,a8,c8,u7,_,B7 0⟩,liL (some ⟨bb,oo,none⟩) ln lc index most ⟨j.i+1,E2,a8,c8,u7,fun _=>undef,B7 0⟩,(by show ln-(j.i+1)<ln-j.i;omega),rfl,(And.intro rfl (And.intro rfl (And.intro rfl (And.intro rfl (And.intro rfl (And.intro rfl (And.intro rfl (And.intro h23 True.intro)))))))),
      Fk.one (F.bx 0 _ rfl) (F.n8 _ List.mem_cons_self),b7,fun k hk=>hk.elim (hwo k) fun (e:k=B7 0)=>by rw[e,<- hz0];exact hwx,(by show ¬aZ db mb tb (B7 0);rw[<- hz0];exact hn0),hd7,DF.of hd7 hg2.1 hc2 (by show E2.steps<=2*((j.i+1:Nat):Int);have:=hgo.2;have:=hg2.2;omega),(hs8.to k7).sub fun k _ h=>h.elim (fun h=>.inl (.inl h)) fun (h:k=B7 0)=>.inl (.inr (by rw[h,<- hz0];exact hx0)),(by show j.i+1<=20;omega)⟩
    ·refine ga env (Fk.frm _ _) plVo ?_;refine aHc 122 hJ fun B7 u7 F=>?_;have hz0:B 0=B7 0:=(List.cons_prefix_cons.1 F.pre).1;have k7:Kept u4 u7 (fun k=>(aZ db mb tb k\/k=j.xb)\/(j.w1.heap.size<=k/\k<v.heap.size)):=F.old.mono fun k _ hk=>by
      rcases List.mem_cons.1 hk with rfl|hk
      ·exact .inl (.inr hx0)
      ·obtain rfl:=List.mem_singleton.1 hk;exact .inr ⟨hb1,hb1v⟩
     have b7:Below w.heap.size w u7:=b4.trans (F.old.below b4.size fun k hk=>by
      rcases List.mem_cons.1 hk with rfl|hk
      ·exact hwx
      ·obtain rfl:=List.mem_singleton.1 hk;exact hwb)
     have hd7:=hd4.cR F.kept (fun k h1 h2=>by rcases F.new k h2 with h2|h2;exact hnb k h1 h2;have:=hd4.lt3 k h1;omega) F.n0;have hw23:IntKind.i64.wrap ((j.i:Int)+1)=((j.i+1:Nat):Int):=by rw[IntKind.wrap_i64];omega
     have h23:Value.int .i64 ((j.i+1:Nat):Int)=Value.int .i64 (IntKind.i64.wrap ((j.i:Int)+1)):=by rw[hw23]
     exact⟨⟨j.i+1,E,a4,c4,u7,_,B7 0⟩,liL (some ⟨bb,oo,none⟩) ln lc index most ⟨j.i+1,E,a4,c4,u7,fun _=>undef,B7 0⟩,(by show ln-(j.i+1)<ln-j.i;omega),rfl,(And.intro rfl (And.intro rfl (And.intro rfl (And.intro rfl (And.intro rfl (And.intro rfl (And.intro rfl (And.intro h23 True.intro)))))))),
      Fk.one (F.bx 0 _ rfl) (F.n8 _ List.mem_cons_self),b7,fun k hk=>hk.elim (hwo k) fun (e:k=B7 0)=>by rw[e,<- hz0];exact hwx,(by show ¬aZ db mb tb (B7 0);rw[<- hz0];exact hn0),hd7,DF.of hd7 hgo.1 hca (by show E.steps<=2*((j.i+1:Nat):Int);have:=hgo.2;omega),(hs4.to k7).sub fun k _ h=>h.elim (fun h=>.inl (.inl h)) fun (h:k=B7 0)=>.inl (.inr (by rw[h,<- hz0];exact hx0)),(by show j.i+1<=20;omega)⟩
  ·refine tC 31 true ?_ ?_
   ·show decide ((r.nm.size:Int) > 100)=true;exact decide_eq_true (by omega)
   refine ga env (LiF.frm w db mb tb j.xb j) plVo ?_;intro B v F;refine(lH v).mono ?_;rintro e v2 ⟨rfl,hb⟩;refine⟨.b (.l true),_,rfl,(LiF.frm w db mb tb j.xb j).b,F.call hb,?_⟩;clear F hb;refine ga env (LiF.frm w db mb tb j.xb j) plVo ?_;refine fa env (LiF.frm w db mb tb j.xb j) ?_;intro B v F;exact⟨rfl,F.low⟩
 ·clear q;refine aHG rfl fun B v F=>?_;have hx0:B 0=j.xb:=(List.cons_prefix_cons.1 F.f.pre).1.symm;have bv:=F.low;have hn0:¬aZ db mb tb (B 0):=by rw[hx0];exact F.nx
  have hdv:=F.d.cR F.f.kept (fun k h1 h2=>hn0 (by obtain rfl:=List.mem_singleton.1 h2;exact h1)) F.f.n0;have hbx:=F.f.bx 0 _ rfl;rw[AV.kV (C:=fun _=>0) (by rfl)]at hbx;have h8:=F.f.n8 _ List.mem_cons_self;have hdf:=F.df;have hle:=F.le;have hxw:w.heap.size<=B 0:=by rw[hx0];exact F.new _ (.inr rfl)
  have hwo:∀k,aZ db mb tb k->w.heap.size<=k:=fun k hk=>F.new k (.inl hk);have hr:Sf (fun k=>aZ db mb tb k\/k=B 0) v (DR j.D j.a j.c):=hx0 ▸ (F.r.to (F.f.kept.mono fun k _ hk=>.inr ((List.mem_singleton.1 hk).trans hx0)));refine⟨Fk [] v,[],B,7,.pa (fun _=>⟨B 0,0,none⟩),Fk.none v,by rfl,?_⟩;generalize B 0=xb at hn0 hbx h8 hxw hr ⊢;clear F;refine ga env (Fk.frm _ v) plVo ?_;intro B v2 F;have k2:=F.old;have b2:=bv.trans ((k2.below (Nat.le_refl _) nofun).mono bv.size);have hbx2:=hbx.kept k2 nofun;have h82:=h8.kept k2 hbx.lt nofun;have hd2:=hdv.cR k2 (fun _ _ h=>by cases h) (fun _ h=>by cases h);have hr2:=hr.to (k2.mono fun _ _ h=>by cases h);have hn:2*(j.i:Int)+2000<=1000000000:=by omega
  have hyo:=aJq (x0:=.int .u64 0) (x1:=.int .i64 0) (x2:=.int .u64 0) (x3:=.int .u64 0) (x4:=.slice none 0 0) (x5:=.slice none 0 0) (x6:=.int .u64 0) (x7:=.slice none 0 0) (x8:=.slice none 0 0) (x9:=.int .i64 0) (x10:=.bool false) (x11:=.pointer none) hbx2 h82 hd2 hdf hn (T:=aZ db mb tb) (fun _ h=>h) (fun k h=>hd2.lt3 k h) hn0 hr2;have hof:=aCz hdf hn;generalize iX j.D=r at hof hyo;obtain⟨E,V,er⟩:=r;refine hyo.mono ?_;rintro e v3 ⟨rfl,h83,k3,T',hTT,hT1,hT2,el,p,vp,hs,hb,har⟩;simp only at hs hb har hof;have b3:=b2.trans (k3.below b2.size fun k hk=>hk.elim (hwo k) fun e=>by rw[e];exact hxw);have hxlt:xb<v2.heap.size:=hbx2.lt;clear F hyo hbx2 h82 hr2 hd2 hbx h8 hr hdv k2 hx0;rcases har with ⟨h0,rfl,hd⟩|⟨h0,b,ev,fv,el2,rfl,rfl,rfl,rfl,hv,hvx,hXx,hvT⟩
  ·refine⟨.t [.b (.l true),.b (.l true)],(fun u L=>u=v3/\L = []),by simp[AV.den,AV.denL,BE.den,h0],⟨fun {w L} h i p hi=>by rw[h.2]at hi;cases hi⟩,⟨rfl,rfl⟩,?_⟩;refine aHG rfl fun B v F=>?_;obtain⟨rfl,-⟩:=F;rw[AV.kV (C:=fun _=>xb) (by rfl)]at hb;refine⟨Fo (mkB (fun _=>xb) 0 [.pa (fun _=>⟨db,0,none⟩) :: .v (.pointer none)::vA E V p]) (fun _=>False) v (fun u=>Below v.heap.size v u/\aG u db mb tb E/\VR E V el p u),[.pa (fun _=>⟨db,0,none⟩) :: .v (.pointer none)::vA E V p],fun _=>xb,7,.p 0 0,Fo.start (fun q hq=>by obtain rfl:=List.mem_singleton.1 hq;exact hb) (fun u bu=>⟨bu,hd.below bu,hs u ((Kept.aL bu (S:=fun _=>False) fun k h1 h2=>by omega).mono fun _ _ h=>h.elim)⟩),by rfl,?_⟩;refine ga env (Fo.frm _ _ _ _ _ rfl) plVo ?_;intro B v1 F;refine(nO _ _ _ E _ F.now.2.1 hof.wf).mono ?_;rintro e w2 ⟨v4,rfl,hs4,hb⟩;obtain⟨va4,vc4,rfl,_⟩:=hs4.shape;refine⟨.sl (fun _=>va4) (fun _=>(E.files.map rfV).length) (fun _=>vc4),_,rfl,(Fo.frm _ _ _ _ _ rfl).b,F.step hb (Z:=fun v=>bJ v 3 (.slice va4 (E.files.map rfV).length vc4) (E.files.map rfV)) (fun v bv=>hs4.below bv),?_⟩;clear hs4 hb F;refine ga env (Fo.frm _ _ _ _ _ rfl) plVo ?_;intro B v1 F;refine(nX _ _ E.files _ F.now.1 F.now.2.2.2.d (by have:=hof.wf.many;simp only at this;omega)).mono ?_;rintro e w2 ⟨rfl,hb⟩;refine⟨.b (.l true),_,rfl,(Fo.frm _ _ _ _ _ rfl).b,F.on hb,?_⟩;clear hb F;refine ga env (Fo.frm _ _ _ _ _ rfl) plVo ?_;intro B v1 F;refine(lH _).mono ?_;rintro e w2 ⟨rfl,hb⟩;refine⟨.b (.l true),_,rfl,(Fo.frm _ _ _ _ _ rfl).b,F.on hb,?_⟩;clear hb F;refine ga env (Fo.frm _ _ _ _ _ rfl) plVo ?_;refine fa env (Fo.frm _ _ _ _ _ rfl) ?_;intro B v1 F;exact⟨rfl,b3.trans (F.now.2.1.mono b3.size)⟩
  ·refine⟨.t [.b (.l true),.b (.l false)],(fun u L=>u=v3/\L = []),by simp[AV.den,AV.denL,BE.den,h0],⟨fun {w L} h i p hi=>by rw[h.2]at hi;cases hi⟩,⟨rfl,rfl⟩,?_⟩;refine aHG rfl fun B v F=>?_;obtain⟨rfl,-⟩:=F;rw[AV.kV (C:=fun _=>xb) (by rfl)]at hb;refine⟨Fo (mkB (fun _=>xb) 0 [.pa (fun _=>⟨b.db,0,none⟩) :: .pa (fun _=>⟨b.vb,0,none⟩)::vA E V p]) (fun _=>False) v (fun u=>Below v.heap.size v u/\bG u b ev fv el2 E V/\VR E V el p u),[.pa (fun _=>⟨b.db,0,none⟩) :: .pa (fun _=>⟨b.vb,0,none⟩)::vA E V p],fun _=>xb,7,.p 0 0,Fo.start (fun q hq=>by obtain rfl:=List.mem_singleton.1 hq;exact hb) (fun u bu=>⟨bu,hv.below bu,hs u ((Kept.aL bu (S:=fun _=>False) fun k h1 h2=>by omega).mono fun _ _ h=>h.elim)⟩),by rfl,?_⟩;refine ga env (Fo.frm _ _ _ _ _ rfl) plVo ?_;intro B v1 F;refine(nO _ _ _ E _ F.now.2.1.log.dZ hof.wf).mono ?_;rintro e w2 ⟨v4,rfl,hs4,hb⟩;obtain⟨va4,vc4,rfl,_⟩:=hs4.shape;refine⟨.sl (fun _=>va4) (fun _=>(E.files.map rfV).length) (fun _=>vc4),_,rfl,(Fo.frm _ _ _ _ _ rfl).b,F.step hb (Z:=fun v=>bJ v 3 (.slice va4 (E.files.map rfV).length vc4) (E.files.map rfV)) (fun v bv=>hs4.below bv),?_⟩;clear hs4 hb F;refine ga env (Fo.frm _ _ _ _ _ rfl) plVo ?_;intro B v1 F;refine(nX _ _ E.files _ F.now.1 F.now.2.2.2.d (by have:=hof.wf.many;simp only at this;omega)).mono ?_;rintro e w2 ⟨rfl,hb⟩;refine⟨.b (.l true),_,rfl,(Fo.frm _ _ _ _ _ rfl).b,F.on hb,?_⟩;clear hb F;refine ga env (Fo.frm _ _ _ _ _ rfl) plVo ?_;intro B v1 F;have hbx:=F.boxes _ List.mem_cons_self;rw[AV.kV (C:=fun _=>0) (by rfl)]at hbx;refine(aKv (el2:=el) hbx F.now.2.2.1 (fun u bu=>(F.later bu).2.2.2) hof.last hof.many hof.wf (fun m hm y hy=>hof.term h0 m hm y hy) index hi most hmo).mono ?_;rintro e w2 ⟨rfl,hb⟩;refine⟨.b (.l true),_,rfl,(Fo.frm _ _ _ _ _ rfl).b,F.on hb,?_⟩;clear hb F hbx;refine ga env (Fo.frm _ _ _ _ _ rfl) plVo ?_;intro B v1 F;refine(lH _).mono ?_;rintro e w2 ⟨rfl,hb⟩;refine⟨.b (.l true),_,rfl,(Fo.frm _ _ _ _ _ rfl).b,F.on hb,?_⟩;clear hb F;refine ga env (Fo.frm _ _ _ _ _ rfl) plVo ?_;refine fa env (Fo.frm _ _ _ _ _ rfl) ?_;intro B v1 F;exact⟨rfl,b3.trans (F.now.2.1.mono b3.size)⟩
open Go.ChangeShapes Go.WideShapes Go.ChangeAt Go.RowKit Go.Deep Go.Proofs.Own

theorem zZ:Tryz.prog.cellsOf 85=3:=by kernel_rfl
theorem aGO:Tryz.prog.cellsOf 9=1:=by kernel_rfl
theorem aIr:Tryz.prog.cellsOf 4=1:=by kernel_rfl
section
variable {H:Type} {enc:TypeId × Value->H} {W:World}
theorem aFO {n:Nat}{cs:List Value}{y:DataW H × List MemPlace}(h:DataW.trod enc Tryz.prog W 0 (fun _=>true) true n 85 cs=some y):∃r:aGx,cs=aDz r/\aA1 W r:=by
 obtain⟨xs,k,_,_,hl,hxl,hg⟩:=DataW.trod_struct Tryz.underlying85 h;rw[zZ]at hl
 match cs,hl with
 | [c0,c1,c2],_ =>
  match xs,hxl with
  | [y0,y1,y2],_ =>
   have g0:=hg 0 _ rfl;have g1:=hg 1 _ rfl;have g2:=hg 2 _ rfl;simp only[List.getElem_toArray,List.getElem_cons_zero,List.getElem_cons_succ]at g0 g1 g2;rw[aGO]at g0;rw[aBU]at g1;rw[aIr]at g2;simp only[List.drop_zero,List.drop_succ_cons,List.take_succ_cons,List.take_zero,List.getElem?_cons_zero,List.getElem?_cons_succ]at g0 g1 g2;obtain⟨z0,e0,_,_⟩:=DataW.trod_string Tryz.underlying9 g0;obtain rfl:c0 = .string z0:=by simpa using e0
   obtain⟨ad,nd,cd,rfl,hd⟩:=aCA g1;obtain⟨z2,e2,_⟩:=DataW.trod_bool Tryz.underlying4 g2;obtain rfl:c2 = .bool z2:=by simpa using e2
   exact⟨⟨z0,ad,nd,cd,z2⟩,rfl,hd⟩
theorem aDT {fuel:Nat}{q:Option Addr}{n c:Nat}{x:DataW H × List MemPlace}(hf:DataW.trod enc Tryz.prog W 0 (fun _=>true) true fuel 65 [.slice q n c]=some x):∃l:List aGx,bJ W 3 (.slice q n c) (l.map aDz)/\(∀r ∈ l,aA1 W r)/\l.length=n:=by
 obtain⟨rs,h1,h2,_⟩:=aFS (val:=aDz) (Ok:=aA1 W) Tryz.underlying65 zZ (by decide) (fun n cs y h=>aFO h) hf;refine⟨rs,h1,h2,?_⟩;obtain⟨a1,c1,e,_⟩:=h1.shape;rw[List.length_map]at e;cases e;rfl
theorem aFR {base:Nat}{v:Value}{d:DataW H}{ps:List MemPlace}(hv:Value.okWide Tryz.prog W .any base 22 v)(h:DataW.Trod enc Tryz.prog W 0 (fun _=>true) true 22 v d ps):∃k:Nat,v = .int .u64 k/\(k:Int)<18446744073709551616:=by
 obtain⟨z,rfl⟩:=okWide_int Tryz.underlying22 hv;obtain⟨f,g⟩:=h;obtain⟨y,e,_,w⟩:=DataW.trod_int Tryz.underlying22 g;have r:=aGp w;have e2:z=y:=by simpa [Value.cells] using e
 subst e2;exact⟨z.toNat,by rw[Int.toNat_of_nonneg r.1],by rw[Int.toNat_of_nonneg r.1];exact r.2⟩
theorem aFP {base:Nat}{v:Value}{d:DataW H}{ps:List MemPlace}(hv:Value.okWide Tryz.prog W .any base 3 v)(h:DataW.Trod enc Tryz.prog W 0 (fun _=>true) true 3 v d ps):∃k:Int,v = .int .i64 k/\k<=9223372036854775807:=by
 obtain⟨z,rfl⟩:=okWide_int Tryz.underlying3 hv;obtain⟨f,g⟩:=h;obtain⟨y,e,_,w⟩:=DataW.trod_int Tryz.underlying3 g;have e2:z=y:=by simpa [Value.cells] using e
 subst e2;exact⟨z,rfl,(aFI w).2⟩
end


theorem qH (os:Os)(started:os.Started)(H:Type)(enc:TypeId × Value->H) :
  ReturnsInHanded {} Tryz.checked os 6 .any (Rows.vaultOpensSpec.pre6 enc Tryz.prog Tryz.f6 Rows.vaultOpensRow.domain false) (Rows.vaultOpensSpec.post enc Tryz.prog Tryz.f6 false true false false):=by
 refine returnsInHanded_of_change (C:=Tryz.checked) own started (by kernel_rfl) Tryz.func6
  (ChangeSpec.witness6 (enc:=enc) (C:=Tryz.checked) false ⟨#[],#[.slice none 0 0,.int .u64 0,.int .i64 0],[]⟩ 8 (by kernel_rfl) (by kernel_rfl) (by kernel_rfl) (by kernel_rfl)) ?_
 intro W base args ds gs before hval0 hW hcnd _;have hval:∀(j:Nat) t v,Tryz.f6.params[j]? = some t->args[j]? = some v->Value.okWide Tryz.prog W .any base t v:=hval0;have hW':=hW;obtain⟨p,q,hA0,hV,_,hfz,hnd⟩:=hW;have hA:DataW.TrodAll enc Tryz.prog W 0 (fun _=>true) true Tryz.f6.params.toList args.toList ds p:=hA0;rw[Tryz.params6]at hA hval;obtain⟨v0,v1,v2,d0,d1,d2,p0,p1,p2,rfl,rfl,rfl,h0,h1,h2⟩:=trodAll_three hA;obtain⟨q0,n0,c0,rfl⟩:=okWide_slice Tryz.underlying65 (hval 0 65 v0 rfl rfl);obtain⟨f0,g0⟩:=h0;obtain⟨l,hl,hok,hln⟩:=aDT g0;obtain⟨index,rfl,hi⟩:=aFR (hval 1 22 v1 rfl rfl) h1;obtain⟨most,rfl,hmo⟩:=aFP (hval 2 3 v2 rfl rfl) h2;refine(aIi hl hok hln index hi most hmo).mono fun e W' ⟨he,hb⟩=>?_;exact⟨_,he,aHg laid (by kernel_rfl) ⟨4,rfl,Tryz.underlying4⟩ rfl (fun ds hds=>by
  match ds,hds with
  | [x0,x1,x2],_=>rfl) hW' hb⟩

theorem vltopens_law_holds:Rows.VaultOpensSaid :=
 OpenClaim.holds_of_wide 6 Tryz.f6 rfl rfl rfl rfl rfl rfl rfl ⟨rfl,rfl,rfl,rfl,rfl⟩ rfl rfl rfl rfl rfl (by kernel_rfl) Tryz.func6 (by kernel_rfl)
  (of_decide_eq_true (by kernel_rfl)) (by unfold Func.isWrapper;first|(rw[if_pos (by decide +kernel)];kernel_rfl)|(rw[if_neg (by decide +kernel)];exact⟨rfl,rfl⟩))
  (fun os started H enc _=>qH os started H enc)
#print axioms vltopens_law_holds
end Go.Proofs.YtjdglpcnkiioeaaGreat
