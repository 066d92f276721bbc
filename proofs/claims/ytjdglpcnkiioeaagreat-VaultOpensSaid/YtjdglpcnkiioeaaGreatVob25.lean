/- For vltopens_law_holds. -/
import Derived.Laws.CopyOwn
import Derived.Deep.OwnRows
import Derived.Test.YtjdglpcnkiioeaaGreatVob22
import Derived.Test.YtjdglpcnkiioeaaGreatVob17
set_option maxHeartbeats 16000000
set_option maxRecDepth 100000
namespace Go.Proofs.YtjdglpcnkiioeaaGreat
open Go.Lib (hid)
open Go.RowKit Go.Maps Go.Proofs.Own

def aEx (w:World)(B:Nat)(v:Value)(s:bM):Prop :=
 ∃mv dv,v = .agg #[.int .u64 s.i,.int .u64 s.t,mv,dv]/\cC w B 3 .i64 mv s.ms/\cC w B 5 .u8 dv (ints s.d)

theorem aAM (v:Value)(s:bM)(w:World)(h:cL w v s) :
  Calls Tryz.prog 149 #[v] w fun e w'=>∃v',e = .returned v'/\aEx w' w.heap.size v' s/\Below w.heap.size w w':=by
 obtain⟨mv,dv,rfl,hm,hd⟩:=h;obtain⟨a,c,rfl,_⟩:=hd.shape;obtain⟨am,cm,rfl,_⟩:=hm.shape;obtain⟨i,t,ms,d⟩:=s;simp only at hm hd ⊢;have HM:=hid hm;have HD:=hid hd;have hml:(ms.length:Int)<=2097152:=by have:ms.length<=2097152:=hm.small;omega
 have HMS:Hid (ms.length<=2097152):=hid hm.small;clear hm hd;obtain⟨i8,hi8,hz8,hy8,hw8⟩:∃i,Tryz.prog.info? 3=some i/\i.zero=some (.int .i64 0)/\i.size=1/\i.bytes=8:=info_parts Tryz.aEN;have HI:=hid (And.intro hi8 (And.intro hz8 (And.intro hy8 hw8)));have HSZ:Hid ((Tryz.prog.info? 3).map (·.size)=some 1):=hid (by rw[hi8];simp[hy8])
 clear hi8 hz8 hy8 hw8;go_enter Tryz.func149,Tryz.ntmps149;have hb3:Below w.heap.size w (((w.alloc (.cells #[.int .u64 i,.int .u64 t,.slice am ms.length cm,.slice a d.length c] 75)).alloc (.cells #[.int .u64 0,.int .u64 0,.slice none 0 0,.slice none 0 0] 75)).alloc (.cells (madeCells #[.int .i64 0] ms.length) 3)) :=
  (((Below.refl _ _).alloc (Nat.le_refl _) _).alloc (by simp) _).alloc (by simp;omega) _
 have SA:Hid (∀o o':Obj,bR (((w.alloc (.cells #[.int .u64 i,.int .u64 t,.slice am ms.length cm,.slice a d.length c] 75)).alloc o).alloc o') w.heap.size i t (.slice am ms.length cm) (.slice a d.length c)):=hid fun o o' =>
  ((bR.box w i t _ _).below ((Below.refl _ _).alloc (Nat.le_refl _) o)).below ((Below.refl _ _).alloc (Nat.le_refl _) o')
 have RA:Hid (∀o':Obj,bR (((w.alloc (.cells #[.int .u64 i,.int .u64 t,.slice am ms.length cm,.slice a d.length c] 75)).alloc (.cells #[.int .u64 0,.int .u64 0,.slice none 0 0,.slice none 0 0] 75)).alloc o') (w.heap.size+1) 0 0 (.slice none 0 0) (.slice none 0 0)):=hid fun o'=>by
  have h:=(bR.new (w.alloc (.cells #[.int .u64 i,.int .u64 t,.slice am ms.length cm,.slice a d.length c] 75))).below ((Below.refl _ _).alloc (Nat.le_refl _) o')
  simpa using h
 have B3:=hid hb3;clear hb3;have HPOS:Hid (∀w':World,Below w.heap.size w w'->0<(ms.map (Value.int .i64)).length->(some (⟨w.heap.size+1+1,0,none⟩:Addr))=some ⟨w.heap.size+1+1,0,none⟩ /\ ∃ad,am=some ad /\ ∀j v,(ms.map (Value.int .i64))[j]? = some v->w'.cell? (ad.add j)=some v):=hid fun w' hb h0=>by
  rw[List.length_map]at h0;have hM:=HM.out.below hb;obtain⟨b,o,e,_⟩:=hM.cells.2.2 0 h0;refine⟨rfl,_,e,fun j u hu=>?_⟩;have hj:j<ms.length:=by have:=(List.getElem?_eq_some_iff.1 hu).1;simpa using this
  obtain⟨b',o',e',hc⟩:=hM.cells.2.2 j hj;rw[e]at e';cases e';rw[Addr.add_lit,hc]
  simpa [hj] using hu
 go_wp2_with (first|(at_make;refine wpList_make_row _ rfl _ _ 73 rfl 3 i8 (.int .i64 0) Tryz.underlying73 HI.out.1 HI.out.2.1 HI.out.2.2.1 rfl .i64 .i64 ms.length rfl rfl (by rw[HI.out.2.2.2];have:=HMS.out;omega) (by have:=HMS.out;omega) ?_)|(refine wpList_copy_splice rfl _ _ 73 73 rfl 3 Tryz.underlying73 HSZ.out (some ⟨w.heap.size+1+1,0,none⟩) am ms.length ms.length ms.length cm rfl rfl (w.heap.size+1+1) 0 (madeCells #[.int .i64 0] ms.length).toList 3 (by have h:=heap_alloc_new ((w.alloc (.cells #[.int .u64 i,.int .u64 t,.slice am ms.length cm,.slice a d.length c] 75)).alloc (.cells #[.int .u64 0,.int .u64 0,.slice none 0 0,.slice none 0 0] 75)) (.cells (madeCells #[.int .i64 0] ms.length) 3);simpa using h) (ms.map (Value.int .i64)) (by simp) (HPOS.out _ B3.out) (by simp[size_madeCells]) (ints_oneCell _ _) (w.heap.size+2) _ (Below.refl _ _) (by omega) ?_;intro w3 HG3 hB3;have BB3:=hid hB3;have B03:Hid (Below w.heap.size w w3):=hid (B3.out.trans (hB3.mono (by omega)));have S3:Hid (bR w3 w.heap.size i t (.slice am ms.length cm) (.slice a d.length c)):=hid ((SA.out _ _).kept (Kept.aL hB3 (S:=fun k=>w.heap.size+2<=k) (fun k _ h=>h)) (by omega));have R3:Hid (bR w3 (w.heap.size+1) 0 0 (.slice none 0 0) (.slice none 0 0)):=hid ((RA.out _).kept (Kept.aL hB3 (S:=fun k=>w.heap.size+2<=k) (fun k _ h=>h)) (by omega));obtain⟨r0,r1,r2,r3,f0,f1,f2,f3⟩:=S3.out;clear hB3))
 have HDI:Hid ((ints d).length<=2097152):=hid (by rw[aS];exact HD.out.small);refine(nJ _ _ w3 (HD.out.below B03.out).rd HDI.out).mono ?_;rintro e w4 ⟨dv4,rfl,hown4,hb4⟩;obtain⟨a4,c4,rfl⟩:=hown4.shape;have O4:=hid hown4;have B4:=hid hb4;have S4:Hid (bR w4 w.heap.size i t (.slice am ms.length cm) (.slice a d.length c)):=hid (S3.out.below hb4);have R4:Hid (bR w4 (w.heap.size+1) 0 0 (.slice none 0 0) (.slice none 0 0)):=hid (R3.out.below hb4);have M4:Hid (cC w4 w.heap.size 3 .i64 (.slice (some ⟨w.heap.size+1+1,0,none⟩) ms.length ms.length) ms):=hid (by
  have h3:cC w3 w.heap.size 3 .i64 (.slice (some ⟨w.heap.size+1+1,0,none⟩) ms.length ms.length) ms:=by
   refine cC.lit (zs:=ms) ?_ (by omega) (by have:=HMS.out;omega);have h:=HG3.out;have e:splice (madeCells #[Value.int .i64 0] ms.length).toList 0 (ms.map (Value.int .i64))=ms.map (Value.int .i64):=by
    simp[splice,size_madeCells]
   rwa [e]at h
  exact h3.below hb4)
 clear r0 r1 r2 r3 f0 f1 f2 f3 hown4 hb4 HG3;obtain⟨r0,r1,r2,r3,f0,f1,f2,f3⟩:=S4.out;obtain⟨q0,q1,q2,q3,g0,g1,g2,g3⟩:=R4.out;go_wp2_with fail;generalize hwF:World.setCell _ _ _=wF;have KF:Hid (Kept w4 wF (fun k=>k=w.heap.size\/k=w.heap.size+1)):=hid (by
  subst hwF;refine Kept.trans ?_ ((Kept.eN _ (w.heap.size+1) i t _ _).mono (fun k _ h=>.inr h));exact((Kept.setCell w4 ⟨w.heap.size,2,none⟩ _).mono (fun k _ h=>.inl h)).trans ((Kept.setCell _ ⟨w.heap.size,3,none⟩ _).mono (fun k _ h=>.inl h)))
 have RF:Hid (bR wF (w.heap.size+1) i t (.slice (some ⟨w.heap.size+1+1,0,none⟩) ms.length ms.length) (.slice a4 (ints d).length c4)):=hid (by
  subst hwF;have k1:=(Kept.setCell w4 ⟨w.heap.size,2,none⟩ (.slice (some ⟨w.heap.size+1+1,0,none⟩) ms.length ms.length));exact((R4.out.kept k1 (by simp)).kept (Kept.setCell _ ⟨w.heap.size,3,none⟩ (.slice a4 (ints d).length c4)) (by simp)).eN i t _ _)
 clear hwF r0 r1 r2 r3 f0 f1 f2 f3 q0 q1 q2 q3 g0 g1 g2 g3;obtain⟨q0,q1,q2,q3,_,_,_,_⟩:=RF.out;have hl3:=R3.out.lt;refine bodyPost_ret (v:=.agg #[.int .u64 i,.int .u64 t,.slice (some ⟨w.heap.size+1+1,0,none⟩) ms.length ms.length,.slice a4 (ints d).length c4]) (by simp[results,Tryz.results149,go_sem,q0,q1,q2,q3]) rfl ?_;refine⟨_,rfl,⟨_,_,rfl,M4.out.kept KF.out (fun b hb=>by
  simp only[Value.ownBlock]at hb;obtain rfl:=Option.some.inj hb;omega),(O4.out.kept KF.out fun b hb=>by have:=(O4.out.lt b hb).1;omega).lower fun b hb=>by have:=(O4.out.lt b hb).1;omega⟩,?_⟩
 exact(B03.out.trans (B4.out.mono B03.out.size)).trans (KF.out.below (by have:=B03.out.size;have:=B4.out.size;omega) (fun k hk=>by omega))
end Go.Proofs.YtjdglpcnkiioeaaGreat
namespace Go.Proofs.YtjdglpcnkiioeaaGreat
open Go.RowKit Go.Maps Go.Proofs.Own

def removeD (D:aA)(n:ByteArray):aA × Nat :=
 match aE n D.files with
 | some _=>if D.down=true then (D,50) else if D.armed=0 then (bP D,50) else ({ bP D with files:=bH n D.files },0)
 | none=>(D,bI D n)
def kC (D:aA)(n to:ByteArray):aA × Nat :=
 match aE n D.files with
 | some f=>if D.down=true then (D,50) else if ¬(1<=to.size/\to.size<=16) then (D,2) else if D.armed=0 then (bP D,50) else ({ bP D with files:=bL { f with name:=to } (bH n D.files) },0)
 | none=>(D,bI D n)
theorem fQ {D:aA}{n:ByteArray}{f:aJ}(h:aE n D.files=some f):bI D n=if D.down=true then 50 else 0:=by
 unfold bI;rw[h];simp
theorem nL {D:aA}{n:ByteArray}(h:aE n D.files=none):bI D n≠0:=by
 unfold bI;rw[h];split<;>simp

theorem iY (db mb tb:Nat)(D:aA)(n:ByteArray)(w:World)(h:aG w db mb tb D)(hw:DWf D)(hn:n.size<=maxLen) :
  Calls Tryz.prog 34 #[.pointer (some ⟨db,0,none⟩),.string n] w (dV db mb tb (syncD D n) w):=by
 unfold syncD;cases e:aE n D.files with
 | none=>exact aAh db mb tb D n w h hn (nL e)
 | some f =>
  simp only;by_cases hd:D.down=true
  ·rw[if_pos hd];have:=aAh db mb tb D n w h hn (by rw[fQ e,if_pos hd];decide)
   rwa [fQ e,if_pos hd]at this
  ·rw[if_neg hd];have hd':D.down=false:=by simpa using hd
   by_cases ha:D.armed=0
   ·rw[if_pos ha];exact aDx db mb tb D n f w h hw hd' hn e ha
   ·rw[if_neg ha];exact aGY db mb tb D n f w h hw hd' hn e ha
theorem jK (db mb tb:Nat)(D:aA)(n:ByteArray)(w:World)(h:aG w db mb tb D)(hw:DWf D)(hn:n.size<=maxLen) :
  Calls Tryz.prog 120 #[.pointer (some ⟨db,0,none⟩),.string n] w (dV db mb tb (removeD D n) w):=by
 unfold removeD;cases e:aE n D.files with
 | none=>exact uD db mb tb D n w h hn (nL e)
 | some f =>
  simp only;by_cases hd:D.down=true
  ·rw[if_pos hd];have:=uD db mb tb D n w h hn (by rw[fQ e,if_pos hd];decide)
   rwa [fQ e,if_pos hd]at this
  ·rw[if_neg hd];have hd':D.down=false:=by simpa using hd
   by_cases ha:D.armed=0
   ·rw[if_pos ha];exact aA9 db mb tb D n f w h hw hd' hn e ha
   ·rw[if_neg ha];exact aDu db mb tb D n f w h hw hd' hn e ha
theorem aFo (db mb tb:Nat)(D:aA)(n to:ByteArray)(w:World)(h:aG w db mb tb D)(hw:DWf D)(hn:n.size<=maxLen)(hto:to.size<=9223372036854775807) :
  Calls Tryz.prog 178 #[.pointer (some ⟨db,0,none⟩),.string n,.string to] w (dV db mb tb (kC D n to) w):=by
 unfold kC;cases e:aE n D.files with
 | none=>exact aAe db mb tb D n to w h hn (nL e)
 | some f =>
  simp only;by_cases hd:D.down=true
  ·rw[if_pos hd];have:=aAe db mb tb D n to w h hn (by rw[fQ e,if_pos hd];decide)
   rwa [fQ e,if_pos hd]at this
  ·rw[if_neg hd];have hd':D.down=false:=by simpa using hd
   by_cases ht:1<=to.size/\to.size<=16
   ·rw[if_neg (by simpa using ht)];by_cases ha:D.armed=0
    ·rw[if_pos ha];exact aDr db mb tb D n to f w h hw hd' hn e ht ha
    ·rw[if_neg ha];exact aGX db mb tb D n to f w h hw hd' hn e ht ha
   ·rw[if_pos ht];exact aDs db mb tb D n to f w h hw hd' hn e hto ht

structure aY (D:aA):Prop where
 wf:DWf D
 tot:total D.files<=1048576
 few:D.files.length<=128
theorem kQ (f:aJ):∀L,total (insFile f L)=f.all.length+total L
 | []=>by simp[insFile,total]
 | g::r=>by
  unfold insFile;split
  ·exact eE _ _
  ·rw[eE,kQ f r,eE];omega
theorem gG (f:aJ):∀L,(insFile f L).length=L.length+1
 | []=>rfl
 | g::r=>by
  unfold insFile;split
  ·rfl
  ·simp[gG f r]
theorem kP (n:ByteArray):∀L,total (bH n L)<=total L
 | []=>Nat.le_refl _
 | g::r=>by
  unfold bH;rw[List.filter_cons];split
  ·have:=kP n r;unfold bH at this;rw[eE,eE];omega
  ·have:=kP n r;unfold bH at this;rw[eE];omega
theorem gK {n:ByteArray}{f:aJ}:∀ {L},aE n L=some f->total (bH n L)+f.all.length<=total L/\(bH n L).length+1<=L.length
 | [],h=>by cases h
 | g::r,h=>by
  unfold aE at h;rw[List.find?_cons]at h;unfold bH;rw[List.filter_cons];by_cases e:g.name=n
  ·rw[decide_eq_true e]at h ⊢;cases h;have h1:=kP n r;have h2:(bH n r).length<=r.length:=List.length_filter_le _ _;unfold bH at h1 h2;simp only[Bool.not_true,Bool.false_eq_true,if_false,eE,List.length_cons];omega
  ·rw[decide_eq_false e]at h ⊢;have h1:=gK (L:=r) h;unfold bH at h1;simp only[Bool.not_false,if_true,eE,List.length_cons];omega
theorem iZ (n:ByteArray)(L:List aJ):(bH n L).length<=L.length:=List.length_filter_le _ _
theorem aY.step {D:aA}(h:aY D)(hs:D.steps+1<=1000000000):aY (bP D) :=
 ⟨h.wf.step hs,by rw[bE];exact h.tot,by rw[bE];exact h.few⟩
theorem aY.qD {D:aA}(h:aY D)(hs:D.steps+1<=1000000000)(L:List aJ)(h1:total L<=1048576)(h2:L.length<=128)(h3:∀f ∈ L,f.name.size<=16/\f.kept<=f.all.length):aY { bP D with files:=L }:=by
 have k:=h.wf.step hs;exact⟨⟨k.room0,k.room1,k.armed0,k.armed1,k.steps0,k.steps1,by simp only;omega,h3⟩,h1,h2⟩
theorem aY.sync {D:aA}(h:aY D)(n:ByteArray)(hs:D.steps+1<=1000000000):aY (syncD D n).1/\(syncD D n).1.steps<=D.steps+1:=by
 unfold syncD;cases e:aE n D.files with
 | none=>exact⟨h,by simp only;omega⟩
 | some f =>
  simp only;split
  ·exact⟨h,by simp only;omega⟩
  ·split
   ·exact⟨h.step hs,by simp only;rw[eG];omega⟩
   ·obtain⟨e1,e2⟩:=cK e;have e3:=gK e;refine⟨h.qD hs _ ?_ ?_ ?_,by simp only;rw[eG];omega⟩
    ·unfold bL;rw[kQ];simp only;rw[e1];have:=h.tot;omega
    ·unfold bL;rw[gG];simp only;rw[e1];have:=h.few;omega
    ·intro g hg;rcases kF.1 hg with rfl|⟨hg,_⟩
     ·exact⟨(h.wf.each f e2).1,Nat.le_refl _⟩
     ·exact h.wf.each g hg
theorem aY.remove {D:aA}(h:aY D)(n:ByteArray)(hs:D.steps+1<=1000000000):aY (removeD D n).1/\(removeD D n).1.steps<=D.steps+1:=by
 unfold removeD;cases e:aE n D.files with
 | none=>exact⟨h,by simp only;omega⟩
 | some f =>
  simp only;split
  ·exact⟨h,by simp only;omega⟩
  ·split
   ·exact⟨h.step hs,by simp only;rw[eG];omega⟩
   ·refine⟨h.qD hs _ (Nat.le_trans (kP _ _) h.tot) (Nat.le_trans (iZ _ _) h.few) fun g hg=>h.wf.each g (jE.1 hg).1,by simp only;rw[eG];omega⟩
theorem aY.move {D:aA}(h:aY D)(n to:ByteArray)(hs:D.steps+1<=1000000000):aY (kC D n to).1/\(kC D n to).1.steps<=D.steps+1:=by
 unfold kC;cases e:aE n D.files with
 | none=>exact⟨h,by simp only;omega⟩
 | some f =>
  simp only;split
  ·exact⟨h,by simp only;omega⟩
  ·split
   ·exact⟨h,by simp only;omega⟩
   ·rename_i ht;split
    ·exact⟨h.step hs,by simp only;rw[eG];omega⟩
    ·obtain⟨e1,e2⟩:=cK e;have e3:=gK e;refine⟨h.qD hs _ ?_ ?_ ?_,by simp only;rw[eG];omega⟩
     ·unfold bL;rw[kQ];simp only;have:=h.tot;have:=kP to (bH n D.files);omega
     ·unfold bL;rw[gG];simp only;have:=h.few;have:=iZ to (bH n D.files);omega
     ·intro g hg;rcases kF.1 hg with rfl|⟨hg,_⟩
      ·exact ⟨by have : 1 ≤ to.size ∧ to.size ≤ 16 := by simpa using ht
                 exact this.2,(h.wf.each f e2).2⟩
      ·exact h.wf.each g (jE.1 hg).1

theorem eI {D:aA}{n:ByteArray}{f:aJ}(h:aE n D.files=some f):cW D n=f:=by unfold cW;rw[h];rfl
theorem tE {D:aA}{n:ByteArray}(h:aE n D.files=none):cW D n=⟨n,[],0⟩:=by unfold cW;rw[h];rfl
theorem aGK {D:aA}(h:aY D){b:List Nat}(hf:¬iV D<b.length):b = []\/total D.files+b.length<=1048576:=by
 by_cases h0:b.length=0
 ·exact .inl (List.eq_nil_of_length_eq_zero h0)
 ·refine .inr ?_;have:=h.wf.room1;unfold iV at hf;omega
theorem aBQ {D:aA}(h:aY D)(n:ByteArray)(b:List Nat)(hnm:1<=n.size/\n.size<=16)(hm:aE n D.files=none->D.files.length<128)(hf:¬iV D<b.length):aY (lL D n b)/\(cW D n).all.length+b.length<=2097152:=by
 have hr:=aGK h hf;have ht:=h.tot;have hb:b.length<=1048576:=by rcases hr with rfl|hr<;>simp_all<;>omega
 have hbt:total D.files+b.length<=1048576:=by
  rcases hr with rfl|hr
  ·simpa using ht
  ·exact hr
 unfold lL;cases e:aE n D.files with
 | none =>
  rw[tE e];refine⟨⟨⟨h.wf.room0,h.wf.room1,h.wf.armed0,h.wf.armed1,h.wf.steps0,h.wf.steps1,?_,?_⟩,?_,?_⟩,by simp only[List.length_nil];omega⟩
  ·simp only;unfold bL;rw[gG];have:=iZ n D.files;have:=hm e;simp only;omega
  ·intro g hg;rcases kF.1 hg with rfl|⟨hg,_⟩
   ·exact⟨hnm.2,Nat.zero_le _⟩
   ·exact h.wf.each g hg
  ·simp only;unfold bL;rw[kQ];have:=kP n D.files;simp only[List.nil_append];omega
  ·simp only;unfold bL;rw[gG];have:=iZ n D.files;have:=hm e;simp only;omega
 | some f =>
  rw[eI e];obtain⟨e1,e2⟩:=cK e;have e3:=gK e;refine⟨⟨⟨h.wf.room0,h.wf.room1,h.wf.armed0,h.wf.armed1,h.wf.steps0,h.wf.steps1,?_,?_⟩,?_,?_⟩,by omega⟩
  ·simp only;unfold bL;rw[gG];simp only;rw[e1];have:=h.few;omega
  ·intro g hg;rcases kF.1 hg with rfl|⟨hg,_⟩
   ·refine⟨by simp only;rw[e1];exact hnm.2,?_⟩;have:=(h.wf.each f e2).2;simp only[List.length_append];omega
   ·exact h.wf.each g hg
  ·simp only;unfold bL;rw[kQ];simp only[List.length_append];rw[e1];omega
  ·simp only;unfold bL;rw[gG];simp only;rw[e1];have:=h.few;omega
theorem wJ (db mb tb:Nat)(D:aA)(n:ByteArray)(bv:Value)(b:List Nat)(w:World)(h:aG w db mb tb D)(hw:aY D)(hB:Bytes w bv b)(hn:n.size<=maxLen) :
  Calls Tryz.prog 32 #[.pointer (some ⟨db,0,none⟩),.string n,bv] w (dV db mb tb (aV D n b) w):=by
 have ht:total D.files<=4294967296:=Nat.le_trans hw.tot (by decide);have no:∀k,k≠0->mF D n b=k->aV D n b=(D,k):=fun k hk e=>by unfold aV;rw[e,if_pos hk]
 by_cases hd:D.down=true
 ·rw[no 50 (by decide) (by unfold mF;rw[if_pos hd])];exact aFj db mb tb D n bv w h hd
 ·have hd':D.down=false:=by simpa using hd
  have hfe:=aG3 (n:=n) hd';by_cases hnm:1<=n.size/\n.size<=16
  ·have hnn:¬ ¬(1<=n.size/\n.size<=16):=fun e=>e hnm;by_cases hm:aE n D.files=none/\128<=D.files.length
   ·rw[no 30 (by decide) (by unfold mF;rw[if_neg hd,if_neg hnn,if_pos (.inl hm)])];rcases hfe with ⟨_,k⟩|⟨k,_⟩
    ·exact absurd hm.1 k
    ·exact aFl db mb tb D n bv b w h hw.wf ht hB hd' hn k hnm hm.2
   ·have hmk:∃k,(k=0\/(k=31/\D.files.length<128))/\bI D n=k:=by
     rcases hfe with ⟨k,_⟩|⟨k,k2⟩
     ·exact⟨0,.inl rfl,k⟩
     ·exact ⟨31, .inr ⟨rfl, by by_cases h8 : D.files.length < 128
                               ·exact h8
                               ·exact absurd ⟨k2,by omega⟩ hm⟩,k⟩
    obtain⟨k,hk,hfk⟩:=hmk;by_cases hfr:iV D<b.length
    ·rw[no 30 (by decide) (by unfold mF;rw[if_neg hd,if_neg hnn,if_pos (.inr hfr)])];exact aFk db mb tb D n bv b w h hw.wf ht hB k hk hd' hn hfk hnm hfr
    ·have he:mF D n b=0:=by
      unfold mF;rw[if_neg hd,if_neg hnn,if_neg (by rintro(h1|h1);exact hm h1;exact hfr h1)]
     have e0:aV D n b=(bP (lL D n b),gJ D):=by unfold aV;rw[he];rfl
     rw[e0];have g:=aBQ hw n b hnm (fun e=>by
      by_cases h8:D.files.length<128
      ·exact h8
      ·exact absurd ⟨e,by omega⟩ hm) hfr
     exact aIv db mb tb D n bv b w h hw.wf ht hB k hk hd' hn hfk hnm hfr g.2 g.1.wf
  ·rw[no 2 (by decide) (by unfold mF;rw[if_neg hd,if_pos hnm])];rcases hfe with ⟨k,_⟩|⟨k,_⟩
   ·exact aAc db mb tb D n bv b w h hw.wf ht hB 0 (.inl rfl) hd' hn k hnm
   ·exact aAc db mb tb D n bv b w h hw.wf ht hB 31 (.inr rfl) hd' hn k hnm
theorem aY.append {D:aA}(h:aY D)(n:ByteArray)(b:List Nat)(hs:D.steps+1<=1000000000):aY (aV D n b).1/\(aV D n b).1.steps<=D.steps+1:=by
 unfold aV;by_cases he:mF D n b≠0
 ·rw[if_pos he];exact⟨h,by simp only;omega⟩
 ·rw[if_neg he];have he0:mF D n b=0:=by omega
  unfold mF at he0;split at he0
  ·cases he0
  ·split at he0
   ·cases he0
   ·rename_i hnm;split at he0
    ·cases he0
    ·rename_i hx;have g:=aBQ h n b (Decidable.of_not_not hnm) (fun e=>by
      by_cases h8:D.files.length<128
      ·exact h8
      ·exact absurd (.inl ⟨e,by omega⟩) hx) (fun e=>hx (.inr e))
     exact⟨g.1.step hs,by simp only;rw[eG];exact Int.le_refl _⟩
end Go.Proofs.YtjdglpcnkiioeaaGreat
namespace Go.Proofs.YtjdglpcnkiioeaaGreat
open Go.Lib (hid)
open Go.RowKit Go.Maps Go.Proofs.Own

def cutD (D:aA)(n:ByteArray)(k:Int):aA × Nat :=
 match aE n D.files with
 | some f=>if D.down=true then (D,50) else if k<0\/(f.all.length:Int)<k then (D,2) else if D.armed=0 then (bP D,50) else ({ bP D with files:=bL ⟨f.name,f.all.take k.toNat,min f.kept k.toNat⟩ D.files },0)
 | none=>(D,bI D n)

theorem aB0 (db mb tb:Nat)(D:aA)(n:ByteArray)(k:Int)(w:World)(h:aG w db mb tb D)(hn:n.size<=maxLen)(he:bI D n≠0) :
  Calls Tryz.prog 118 #[.pointer (some ⟨db,0,none⟩),.string n,.int .i64 k] w (dV db mb tb (D,bI D n) w):=by
 have C:=hid (mQ db mb tb D n w h hn he);have H:=hid h;obtain⟨k,hk⟩:∃k,bI D n=k:=⟨_,rfl⟩;have hkb:((k:Int) != 0)=true:=bne_iff_ne.2 (by omega);rw[hk]at C ⊢;clear h hn he hk;go_enter Tryz.func118,Tryz.ntmps118;go_wp2_with fail;refine C.out.mono ?_;rintro e w1 ⟨rfl,hb1⟩;have B1:=hid hb1;have L1:=hb1.size;clear hb1;go_wp2_with fail;go_ret;have BF:=B1.out.alloc L1 (.cells #[.slice none 0 0,.int .i64 0] 134);exact⟨rfl,H.out.below BF,Kept.cE BF⟩

theorem aGT (db mb tb:Nat)(D:aA)(n:ByteArray)(k:Int)(f:aJ)(w:World)(h:aG w db mb tb D)(hw:DWf D)(hd:D.down=false)(hn:n.size<=maxLen)(hf:aE n D.files=some f)(hk:k<0\/(f.all.length:Int)<k) :
  Calls Tryz.prog 118 #[.pointer (some ⟨db,0,none⟩),.string n,.int .i64 k] w (dV db mb tb (D,2) w):=by
 have C:=hid (eW db mb tb D n f w h hd hn hf);have H:=hid h;have HW:=hid hw;have HN:=hid (cX hn);have HFN:=hid (cK hf);have HM3:=hid h.lt3;have hl:=h.lt;have many:=hw.many;clear h hw hd hn hf;go_enter Tryz.func118,Tryz.ntmps118;go_wp2_with fail;refine C.out.mono ?_;rintro e w1 ⟨v,rfl,hfi,hb1⟩;have HFI:=hid hfi;obtain⟨a,c,rfl,_,_⟩:=hfi;have B1:=hid hb1;have L1:=hb1.size;clear hb1;have BF:=hid (B1.out.alloc L1 (.cells #[.slice a f.all.length c,.int .i64 f.kept] 134));rcases hk with hk|hk
 ·go_wp2_with fail;go_ret;exact⟨rfl,H.out.below BF.out,Kept.cE BF.out⟩
 ·have hk0:¬k<0:=by omega
  go_wp2_with fail;go_ret;exact⟨rfl,H.out.below BF.out,Kept.cE BF.out⟩

theorem aFm (db mb tb:Nat)(D:aA)(n:ByteArray)(k:Int)(f:aJ)(w:World)(h:aG w db mb tb D)(hw:DWf D)(hd:D.down=false)(hn:n.size<=maxLen)(hf:aE n D.files=some f)(hk0:0<=k)(hk1:k<=(f.all.length:Int))(ha:D.armed=0) :
  Calls Tryz.prog 118 #[.pointer (some ⟨db,0,none⟩),.string n,.int .i64 k] w (dV db mb tb (bP D,50) w):=by
 have HE:Hid (gJ D=50):=hid (if_pos ha);have hkn:¬k<0:=by omega
 have hkl:¬(f.all.length:Int)<k:=by omega
 have C:=hid (eW db mb tb D n f w h hd hn hf);have H:=hid h;have HW:=hid hw;have HN:=hid (cX hn);have HFN:=hid (cK hf);have HM3:=hid h.lt3;have hl:=h.lt;have many:=hw.many;clear h hw hd hn hf;go_enter Tryz.func118,Tryz.ntmps118;go_wp2_with fail;refine C.out.mono ?_;rintro e w1 ⟨v,rfl,hfi,hb1⟩;have HFI:=hid hfi;obtain⟨a,c,rfl,_,_⟩:=hfi;have B1:=hid hb1;have L1:=hb1.size;clear hb1;go_wp2_with fail;generalize hW:World.alloc w1 _=w2;have B2:Hid (Below w.heap.size w w2):=hid (by subst hW;exact B1.out.alloc L1 _);have B12:Hid (Below w1.heap.size w1 w2):=hid (by subst hW;exact(Below.refl _ _).alloc (Nat.le_refl _) _);have X2:Hid (w2.cell? ⟨w1.heap.size,0,none⟩=some (.slice a f.all.length c)/\w2.cell? ⟨w1.heap.size,1,none⟩=some (.int .i64 f.kept)/\w2.frozen? ⟨w1.heap.size,0,none⟩=false/\w2.frozen? ⟨w1.heap.size,1,none⟩=false/\w1.heap.size<w2.heap.size):=hid (by subst hW;exact⟨by go_cell,by go_cell,by simp,by simp,by simp⟩);have D2:Hid (aG w2 db mb tb D):=hid (H.out.below B2.out);have NB:Hid (¬aZ db mb tb w1.heap.size):=hid fun e=>by have:=HM3.out _ e;omega
 clear hW;refine(gO db mb tb D _ D2.out HW.out).mono ?_;rintro e w3 ⟨rfl,hd3,k3⟩;rw[HE.out];have D3:=hid hd3;have K3:=hid k3;clear hd3 k3;go_wp2_with fail;go_ret;exact⟨rfl,D3.out,(Kept.cE B2.out).trans K3.out⟩

theorem aIx (db mb tb:Nat)(D:aA)(n:ByteArray)(k:Nat)(f:aJ)(w:World)(h:aG w db mb tb D)(hw:DWf D)(hd:D.down=false)(hn:n.size<=maxLen)(hf:aE n D.files=some f)(hk1:k<=f.all.length)(ha:D.armed≠0) :
  Calls Tryz.prog 118 #[.pointer (some ⟨db,0,none⟩),.string n,.int .i64 (k:Int)] w (dV db mb tb ({ bP D with files:=bL ⟨f.name,f.all.take k,min f.kept k⟩ D.files },0) w):=by
 have hkn:¬(k:Int)<0:=by omega
 have hkl:¬(f.all.length:Int)<(k:Int):=by omega
 have HE:Hid (gJ D=0):=hid (if_neg ha);have HK1:=hid hk1;clear hk1;have C:=hid (eW db mb tb D n f w h hd hn hf);have H:=hid h;have HW:=hid hw;have HN:=hid (cX hn);have HFN:=hid (cK hf);have HM3:=hid h.lt3;have hl:=h.lt;have many:=hw.many;clear h hw hd hn hf;go_enter Tryz.func118,Tryz.ntmps118;go_wp2_with fail;refine C.out.mono ?_;rintro e w1 ⟨v,rfl,hfi,hb1⟩;have HFI:=hid hfi;obtain⟨a,c,rfl,_,_⟩:=hfi;have B1:=hid hb1;have L1:=hb1.size;clear hb1;go_wp2_with fail;generalize hW:World.alloc w1 _=w2;have B2:Hid (Below w.heap.size w w2):=hid (by subst hW;exact B1.out.alloc L1 _);have B12:Hid (Below w1.heap.size w1 w2):=hid (by subst hW;exact(Below.refl _ _).alloc (Nat.le_refl _) _);have X2:Hid (w2.cell? ⟨w1.heap.size,0,none⟩=some (.slice a f.all.length c)/\w2.cell? ⟨w1.heap.size,1,none⟩=some (.int .i64 f.kept)/\w2.frozen? ⟨w1.heap.size,0,none⟩=false/\w2.frozen? ⟨w1.heap.size,1,none⟩=false/\w1.heap.size<w2.heap.size):=hid (by subst hW;exact⟨by go_cell,by go_cell,by simp,by simp,by simp⟩);have D2:Hid (aG w2 db mb tb D):=hid (H.out.below B2.out);have NB:Hid (¬aZ db mb tb w1.heap.size):=hid fun e=>by have:=HM3.out _ e;omega
 clear hW;refine(gO db mb tb D _ D2.out HW.out).mono ?_;rintro e w3 ⟨rfl,hd3,k3⟩;rw[HE.out];have D3:=hid hd3;have K3:=hid k3;clear hd3 k3;have X3:Hid (w3.cell? ⟨w1.heap.size,0,none⟩=some (.slice a f.all.length c)/\w3.cell? ⟨w1.heap.size,1,none⟩=some (.int .i64 f.kept)/\w3.frozen? ⟨w1.heap.size,0,none⟩=false/\w3.frozen? ⟨w1.heap.size,1,none⟩=false/\w1.heap.size<w3.heap.size):=hid ⟨K3.out.cell X2.out.1 NB.out,K3.out.cell X2.out.2.1 NB.out,(K3.out.frozen (a:=⟨w1.heap.size,0,none⟩) X2.out.2.2.2.2 NB.out).trans X2.out.2.2.1,(K3.out.frozen (a:=⟨w1.heap.size,1,none⟩) X2.out.2.2.2.2 NB.out).trans X2.out.2.2.2.1,Nat.lt_of_lt_of_le X2.out.2.2.2.2 K3.out.size⟩;obtain⟨x0,x1,y0,y1,L3⟩:=X3.out;have FI3:=hid ((HFI.out.below B12.out).kept K3.out);obtain⟨a',HB',HO',hcut⟩:=(show Bytes w3 (.slice a f.all.length c) f.all by obtain⟨a2,c2,e1,e2,_⟩:=FI3.out;cases e1;exact e2).aEB Tryz.u8s k HK1.out;have FI4:Hid (dQ w3 db mb tb (.agg #[.slice a' k k,.int .i64 ((min f.kept k:Nat):Int)]) ⟨f.name,f.all.take k,min f.kept k⟩):=hid (by
  obtain⟨a2,c2,e1,e2,e3⟩:=FI3.out;cases e1;have hl:(f.all.take k).length=k:=by rw[List.length_take];have:=HK1.out;omega
  refine⟨a',k,by simp only[hl],by simp only[hl];exact HB',?_⟩;rcases e3 with e3|⟨g,hg,hn⟩
  ·exact .inl (by simp[e3])
  ·exact .inr ⟨g,by simp only[hl];rw[HO'];exact hg,hn⟩)
 have hmin:(if k<f.kept then (k:Int) else (f.kept:Int))=((min f.kept k:Nat):Int):=by split<;>omega
 obtain⟨mk,hmk⟩:∃mk:Int,mk=((min f.kept k:Nat):Int):=⟨_,rfl⟩;rw[<- hmk]at FI4 hmin;have HMK:=hid hmk;clear hmk;have XR:Hid (w3.cell? ⟨db,0,none⟩=some (.map (some mb))/\w3.cell? ⟨w1.heap.size,0,none⟩=some (.slice a f.all.length c)/\w3.cell? ⟨w1.heap.size,1,none⟩=some (.int .i64 f.kept)):=hid ⟨D3.out.c0,X3.out.1,X3.out.2.1⟩;obtain⟨vals,hmap,hfs⟩:=D3.out.fs;rw[bE]at hmap hfs;have MR:=hid hmap;have FS:=hid hfs;have HB2:=hid HB';have HO2:=hid HO';clear x0 x1 y0 y1 hmap hfs HB' HO';go_wp2_with fail;refine aU [0,1,3,7,0,0,32,0,0,480,0,1024,0,7168,16352,32767] 0 (fun w'=>w'.cell? ⟨db,0,none⟩=some (.map (some mb))/\w'.cell? ⟨w1.heap.size,0,none⟩=some (.slice a f.all.length c)/\w'.cell? ⟨w1.heap.size,1,none⟩=some (.int .i64 f.kept)) (by kernel_rfl) ?_;refine aB [0,1,2,3,4,5,6,7,8,9,10,11,12,13,14] (by kernel_rfl) (L:=bm 16 32767) (by kernel_rfl) (f':=1) rfl (fun _ _ _ _ h=>h) (fun w o h=>(((aR.cell _ _).and ((aR.cell _ _).and (aR.cell _ _))).alloc h o)) (.inr XR.out) ?_;simp only[sF,sL]
 iterate 15 (first|(refine aW _ (by rfl) (fun w' hs=>by obtain⟨y0,y1,y2⟩:=hs;go_simp;try with_reducible rfl) rfl ?_;simp only[Act.put,sA])|(refine aC _ (by rfl) (fun w'=>by go_simp;try with_reducible rfl) ?_;simp only[Act.put,sA]))
 refine aI ?_;refine aM 15 (by kernel_rfl) (L:=bm 16 65535) (by kernel_rfl) ?_;simp only[sL];refine wpList_mapUpdate_in _ rfl _ _ _ 47 rfl 9 134 law Tryz.underlying47 gW mb _ _ rfl (by first|exact MR.out|exact World.ownsMap.drew MR.out) (by unfold maxLen;omega) _ _ _ rfl rfl HN.out (.held (.agg #[.slice a' k k,.int .i64 mk])) [] (kU _ _ _ _) ?_;intro w5 hown5 hturn5;have O5:=hid hown5;have T5:Hid (w3.drew.mapTurned w5 mb):=hid hturn5;clear hown5 hturn5;go_wp2_with fail;refine aH nofun ?_;refine bC (by kernel_rfl) ?_;go_wp2_with fail;go_ret;refine⟨rfl,?_,((Kept.cE B2.out).trans K3.out).trans ((Kept.drew w3 _).trans (Kept.jG T5.out))⟩;have DR:Below w3.heap.size w3 w3.drew:=(Below.refl _ _).drew;have e5:=O5.out;rw[<- HFN.out.1]at e5;have e6:(bP D).files=D.files:=bE D;have hp:=aG.put (f:=⟨f.name,f.all.take k,min f.kept k⟩) (v:=.agg #[.slice a' k k,.int .i64 mk]) (D3.out.below DR) (by rw[e6];exact fun g hg=>(FS.out g hg).below DR) (by rw[e6];exact e5) T5.out (FI4.out.below DR);rw[e6]at hp;exact hp

theorem aBZ (db mb tb:Nat)(D:aA)(n:ByteArray)(k:Int)(w:World)(h:aG w db mb tb D)(hw:DWf D)(hn:n.size<=maxLen) :
  Calls Tryz.prog 118 #[.pointer (some ⟨db,0,none⟩),.string n,.int .i64 k] w (dV db mb tb (cutD D n k) w):=by
 unfold cutD;cases e:aE n D.files with
 | none=>exact aB0 db mb tb D n k w h hn (nL e)
 | some f =>
  simp only;by_cases hd:D.down=true
  ·rw[if_pos hd];have:=aB0 db mb tb D n k w h hn (by rw[fQ e,if_pos hd];decide)
   rwa [fQ e,if_pos hd]at this
  ·rw[if_neg hd];have hd':D.down=false:=by simpa using hd
   by_cases hk:k<0\/(f.all.length:Int)<k
   ·rw[if_pos hk];exact aGT db mb tb D n k f w h hw hd' hn e hk
   ·rw[if_neg hk];by_cases ha:D.armed=0
    ·rw[if_pos ha];exact aFm db mb tb D n k f w h hw hd' hn e (by omega) (by omega) ha
    ·rw[if_neg ha];obtain⟨q,rfl⟩:=Int.eq_ofNat_of_zero_le (show 0<=k by omega);exact aIx db mb tb D n q f w h hw hd' hn e (by omega) ha

abbrev eY:ByteArray:=⟨#[115,110,97,112]⟩
abbrev bV:ByteArray:=⟨#[115,110,97,112,46,110,101,119]⟩
structure gU (w:World)(sb db:Nat)(i t:Int)(mv dv:Value):Prop where
 c0:w.cell? ⟨sb,0,none⟩=some (.pointer (some ⟨db,0,none⟩))
 c1:w.cell? ⟨sb,1,none⟩=some (.int .u64 i)
 c2:w.cell? ⟨sb,2,none⟩=some (.int .u64 t)
 c3:w.cell? ⟨sb,3,none⟩=some mv
 c4:w.cell? ⟨sb,4,none⟩=some dv
 f1:w.frozen? ⟨sb,1,none⟩=false
 f2:w.frozen? ⟨sb,2,none⟩=false
 f3:w.frozen? ⟨sb,3,none⟩=false
 f4:w.frozen? ⟨sb,4,none⟩=false
 n8:iF w sb
theorem gU.lt {w:World}{sb db:Nat}{i t:Int}{mv dv:Value}(h:gU w sb db i t mv dv):sb<w.heap.size:=World.block_lt_of_cell? _ _ h.c0
theorem gU.kept {w w':World}{sb db:Nat}{i t:Int}{mv dv:Value}{S:Nat->Prop}(h:gU w sb db i t mv dv)(hk:Kept w w' S)(hs:¬S sb):gU w' sb db i t mv dv :=
 ⟨hk.cell h.c0 hs, hk.cell h.c1 hs, hk.cell h.c2 hs, hk.cell h.c3 hs, hk.cell h.c4 hs, (hk.frozen (a := ⟨sb, 1, none⟩) h.lt hs).trans h.f1,
  (hk.frozen (a:=⟨sb,2,none⟩) h.lt hs).trans h.f2,(hk.frozen (a:=⟨sb,3,none⟩) h.lt hs).trans h.f3,(hk.frozen (a:=⟨sb,4,none⟩) h.lt hs).trans h.f4,h.n8.kept hk h.lt hs⟩
def fJ (w:World)(sb db mb tb:Nat)(s:bM):Prop :=
 ∃mv dv,gU w sb db s.i s.t mv dv/\Ints w mv s.ms/\Bytes w dv s.d/\(∀b,mv.ownBlock=some b -> ¬aZ db mb tb b/\b≠sb)/\(∀b,dv.ownBlock=some b -> ¬aZ db mb tb b/\b≠sb) /\ ¬aZ db mb tb sb
theorem fJ.kept {w w':World}{sb db mb tb:Nat}{s:bM}(h:fJ w sb db mb tb s)(hk:Kept w w' (aZ db mb tb)):fJ w' sb db mb tb s:=by
 obtain⟨mv,dv,h1,h2,h3,h4,h5,h6⟩:=h;exact⟨mv,dv,h1.kept hk h6,h2.kept hk fun b hb=>(h4 b hb).1,h3.kept hk fun b hb=>(h5 b hb).1,h4,h5,h6⟩
theorem fJ.below {w w':World}{sb db mb tb:Nat}{s:bM}(h:fJ w sb db mb tb s)(hb:Below w.heap.size w w'):fJ w' sb db mb tb s:=h.kept (Kept.cE hb)
theorem fJ.lt {w:World}{sb db mb tb:Nat}{s:bM}(h:fJ w sb db mb tb s):sb<w.heap.size:=let ⟨_,_,h1,_⟩:=h;h1.lt

theorem aCU (sb db mb tb:Nat)(s:bM)(w:World)(h:fJ w sb db mb tb s):Calls Tryz.prog 148 #[.pointer (some ⟨sb,0,none⟩)] w fun e w'=>e = .returned (.bool false)/\w=w':=by
 obtain⟨mv,dv,h1,_⟩:=h;have c0:=h1.c0;clear h1;go_enter Tryz.func148,Tryz.ntmps148;go_wp2_with fail;go_ret;exact⟨rfl,rfl⟩

def bD (D:aA):aA × Nat:=((removeD D bV).1,if (removeD D bV).2=31 then 0 else (removeD D bV).2)
theorem nD (sb db mb tb:Nat)(D:aA)(w:World)(hc:w.cell? ⟨sb,0,none⟩=some (.pointer (some ⟨db,0,none⟩)))(hd:aG w db mb tb D)(hw:aY D) :
  Calls Tryz.prog 146 #[.pointer (some ⟨sb,0,none⟩)] w (dV db mb tb (bD D) w):=by
 have HD:=hid hd;have HW:=hid hw;clear hd hw;unfold bD;by_cases hk:(removeD D bV).2=31
 all_goals
  have HK:=hid hk
  first|rw[if_pos hk]|rw[if_neg hk]
  clear hk;go_enter Tryz.func146,Tryz.ntmps146;go_wp2_with fail;refine(jK db mb tb D bV w HD.out HW.out.wf (by decide)).mono ?_;rintro e w1 ⟨rfl,hd1,hk1⟩;have D1:=hid hd1;have K1:=hid hk1;clear hd1 hk1;generalize (removeD D bV).1=D' at *
  generalize (removeD D bV).2=k at *
 ·have hk:=HK.out;subst hk;go_wp2_with fail;go_ret;exact⟨rfl,D1.out,K1.out⟩
 ·have hki:((k:Int) != 31)=true:=by have:=HK.out;simp;omega
  go_wp2_with fail;go_ret;exact⟨rfl,D1.out,K1.out⟩
theorem kZ {D:aA}(h:aY D)(hs:D.steps+1<=1000000000):aY (bD D).1/\(bD D).1.steps<=D.steps+1:=h.remove bV hs

theorem aHU (sb db mb tb:Nat)(s:bM)(w:World)(h:fJ w sb db mb tb s)(hi:s.i≠0) :
  Calls Tryz.prog 101 #[.pointer (some ⟨sb,0,none⟩)] w fun e w'=>∃v',e = .returned (.tuple #[v',.bool true])/\aEx w' w.heap.size v' s/\Below w.heap.size w w':=by
 have H:=hid h;obtain⟨mv,dv,h1,h2,h3,_⟩:=h;have HS:=hid h1;have HM:=hid h2;have HB:=hid h3;have hsl:=h1.lt;obtain⟨a,c,rfl,_⟩:=h3.shape;obtain⟨am,cm,rfl,_⟩:=h2.shape;obtain⟨i,t,ms,d⟩:=s;simp only at *
 have hib:(i==0)=false:=by simpa using hi
 clear h1 h2 h3 hi;go_enter Tryz.func101,Tryz.ntmps101;go_wp2_with fail;have R1:Hid (bR (w.alloc (.cells #[.int .u64 0,.int .u64 0,.slice none 0 0,.slice none 0 0] 75)) w.heap.size 0 0 (.slice none 0 0) (.slice none 0 0)):=hid (bR.new w);have B1:Hid (Below w.heap.size w (w.alloc (.cells #[.int .u64 0,.int .u64 0,.slice none 0 0,.slice none 0 0] 75))):=hid ((Below.refl _ _).alloc (Nat.le_refl _) _);generalize World.alloc w _=w1 at *
 refine(aCU sb db mb tb _ w1 (H.out.below B1.out)).mono ?_;rintro e w1' ⟨rfl,rfl⟩;have S1:Hid (gU w1 sb db i t (.slice am ms.length cm) (.slice a d.length c)):=hid (HS.out.kept (Kept.aL B1.out (S:=fun _=>False) fun k h1 h2=>by omega) fun h=>h);obtain⟨r0,r1,r2,r3,r4,_,_,_,_⟩:=S1.out;go_wp2_with fail;refine(aAM _ ⟨i,t,ms,d⟩ w1 ⟨_,_,rfl,HM.out.below B1.out,HB.out.below B1.out⟩).mono ?_;rintro e w2 ⟨v2,rfl,⟨mv2,dv2,rfl,om,od⟩,hb2⟩;obtain⟨am2,cm2,rfl⟩:=om.shape;obtain⟨ad2,cd2,rfl⟩:=od.shape;have R2:Hid (bR w2 w.heap.size 0 0 (.slice none 0 0) (.slice none 0 0)):=hid (R1.out.below hb2);have OM:=hid om;have OD:=hid od;have B2:Hid (Below w.heap.size w w2):=hid (B1.out.trans (hb2.mono B1.out.size));have hl1:=R1.out.lt;clear om od hb2 r0 r1 r2 r3 r4;obtain⟨q0,q1,q2,q3,g0,g1,g2,g3⟩:=R2.out;go_wp2_with fail;generalize hwF:World.setCell _ _ _=wF;have KF:Hid (Kept w2 wF (fun k=>k=w.heap.size)):=hid (by subst hwF;exact Kept.eN _ _ _ _ _ _);have RF:Hid (bR wF w.heap.size i t (.slice am2 ms.length cm2) (.slice ad2 (ints d).length cd2)):=hid (by subst hwF;exact R2.out.eN i t _ _);clear hwF q0 q1 q2 q3 g0 g1 g2 g3;obtain⟨q0,q1,q2,q3,_,_,_,_⟩:=RF.out;refine bodyPost_ret (v:=.tuple #[.agg #[.int .u64 i,.int .u64 t,.slice am2 ms.length cm2,.slice ad2 (ints d).length cd2],.bool true]) (by simp[results,Tryz.results101,go_sem,q0,q1,q2,q3]) rfl ?_;refine⟨_,rfl,⟨_,_,rfl,(OM.out.kept KF.out fun b hb=>by have:=(OM.out.lt b hb).1;omega).lower fun b hb=>by have:=(OM.out.lt b hb).1;omega,(OD.out.kept KF.out fun b hb=>by have:=(OD.out.lt b hb).1;omega).lower fun b hb=>by have:=(OD.out.lt b hb).1;omega⟩,B2.out.trans (KF.out.below B2.out.size (fun k hk=>by omega))⟩

abbrev dR:ByteArray:=⟨#[118,111,119]⟩
abbrev fH:ByteArray:=⟨#[118,111,119,46,110,101,119]⟩
def dM (D:aA)(n:ByteArray):aA × Nat:=((removeD D n).1,if (removeD D n).2=31 then 0 else (removeD D n).2)
theorem uA (db mb tb:Nat)(D:aA)(n:ByteArray)(w:World)(hd:aG w db mb tb D)(hw:aY D)(hn:n.size<=maxLen) :
  Calls Tryz.prog 144 #[.pointer (some ⟨db,0,none⟩),.string n] w (dV db mb tb (dM D n) w):=by
 have HD:=hid hd;have HW:=hid hw;have HN:=hid hn;clear hd hw hn;unfold dM;by_cases hk:(removeD D n).2=31
 all_goals
  have HK:=hid hk
  first|rw[if_pos hk]|rw[if_neg hk]
  clear hk;go_enter Tryz.func144,Tryz.ntmps144;go_wp2_with fail;refine(jK db mb tb D n w HD.out HW.out.wf HN.out).mono ?_;rintro e w1 ⟨rfl,hd1,hk1⟩;have D1:=hid hd1;have K1:=hid hk1;clear hd1 hk1;generalize (removeD D n).1=D' at *
  generalize (removeD D n).2=k at *
 ·have hk:=HK.out;subst hk;go_wp2_with fail;go_ret;exact⟨rfl,D1.out,K1.out⟩
 ·have hki:((k:Int) != 31)=true:=by have:=HK.out;simp;omega
  go_wp2_with fail;go_ret;exact⟨rfl,D1.out,K1.out⟩
theorem pI {D:aA}(n:ByteArray)(h:aY D)(hs:D.steps+1<=1000000000):aY (dM D n).1/\(dM D n).1.steps<=D.steps+1:=h.remove n hs

structure fB (w:World)(bb db:Nat)(t v:Int):Prop where
 c0:w.cell? ⟨bb,0,none⟩=some (.pointer (some ⟨db,0,none⟩))
 c1:w.cell? ⟨bb,1,none⟩=some (.int .u64 t)
 c2:w.cell? ⟨bb,2,none⟩=some (.int .i64 v)
 f1:w.frozen? ⟨bb,1,none⟩=false
 f2:w.frozen? ⟨bb,2,none⟩=false
 n8:iF w bb
theorem fB.lt {w:World}{bb db:Nat}{t v:Int}(h:fB w bb db t v):bb<w.heap.size:=World.block_lt_of_cell? _ _ h.c0
theorem fB.kept {w w':World}{bb db:Nat}{t v:Int}{S:Nat->Prop}(h:fB w bb db t v)(hk:Kept w w' S)(hs:¬S bb):fB w' bb db t v :=
 ⟨hk.cell h.c0 hs,hk.cell h.c1 hs,hk.cell h.c2 hs,(hk.frozen (a:=⟨bb,1,none⟩) h.lt hs).trans h.f1,(hk.frozen (a:=⟨bb,2,none⟩) h.lt hs).trans h.f2,h.n8.kept hk h.lt hs⟩
theorem fB.below {w w':World}{bb db:Nat}{t v:Int}(h:fB w bb db t v)(hb:Below w.heap.size w w'):fB w' bb db t v :=
 h.kept (Kept.aL hb (S:=fun _=>False) fun k h1 h2=>by omega) fun h=>h

theorem aK4 (bb db:Nat)(t v:Int)(w:World)(h:fB w bb db t v):Calls Tryz.prog 151 #[.pointer (some ⟨bb,0,none⟩)] w fun e w'=>e = .returned (.bool false)/\w=w':=by
 have c0:=h.c0;clear h;go_enter Tryz.func151,Tryz.ntmps151;go_wp2_with fail;go_ret;exact⟨rfl,rfl⟩
theorem aEq (bb db:Nat)(t v:Int)(w:World)(h:fB w bb db t v):Calls Tryz.prog 107 #[.pointer (some ⟨bb,0,none⟩)] w fun e w'=>e = .returned (.agg #[.int .u64 t,.int .i64 v])/\Below w.heap.size w w':=by
 have H:=hid h;have hlt:=h.lt;clear h;go_enter Tryz.func107,Tryz.ntmps107;go_wp2_with fail;have BA:Hid (Below w.heap.size w (w.alloc (.cells #[.int .u64 0,.int .i64 0] 97))):=hid ((Below.refl _ _).alloc (Nat.le_refl _) _);have C0:Hid ((w.alloc (.cells #[.int .u64 0,.int .i64 0] 97)).cell? ⟨w.heap.size,0,none⟩=some (.int .u64 0)/\(w.alloc (.cells #[.int .u64 0,.int .i64 0] 97)).cell? ⟨w.heap.size,1,none⟩=some (.int .i64 0)):=hid ⟨by go_cell,by go_cell⟩;have F0:Hid ((w.alloc (.cells #[.int .u64 0,.int .i64 0] 97)).frozen? ⟨w.heap.size,0,none⟩=false/\(w.alloc (.cells #[.int .u64 0,.int .i64 0] 97)).frozen? ⟨w.heap.size,1,none⟩=false):=hid ⟨by simp,by simp⟩;generalize World.alloc w _=w1 at *
 have H1:=hid (H.out.below BA.out);refine(aK4 bb db t v w1 H1.out).mono ?_;rintro e w1' ⟨rfl,rfl⟩;obtain⟨b0,b1,b2,_,_⟩:=H1.out;obtain⟨k0,k1⟩:=C0.out;obtain⟨g0,g1⟩:=F0.out;go_wp2_with fail;have y0:((w1.setCell ⟨w.heap.size,0,none⟩ (.int .u64 t)).setCell ⟨w.heap.size,1,none⟩ (.int .i64 v)).cell? ⟨w.heap.size,0,none⟩=some (.int .u64 t):=by
  rw[cso (by simp)];exact css k0
 have y1:((w1.setCell ⟨w.heap.size,0,none⟩ (.int .u64 t)).setCell ⟨w.heap.size,1,none⟩ (.int .i64 v)).cell? ⟨w.heap.size,1,none⟩=some (.int .i64 v) :=
  css (by rw[cso (by simp)];exact k1)
 refine bodyPost_ret (v:=.agg #[.int .u64 t,.int .i64 v]) (by simp[results,Tryz.results107,go_sem,y0,y1]) rfl ?_;exact⟨rfl,BA.out.trans ((((Kept.setCell w1 ⟨w.heap.size,0,none⟩ _).trans (Kept.setCell _ ⟨w.heap.size,1,none⟩ _))).below BA.out.size (fun k h=>by show w.heap.size<=k;simp only at h;omega))⟩

theorem aGb (tc bc sb db mb tb:Nat)(D:aA)(a:Option Addr)(n c:Nat)(b:List Nat)(w:World)(h1:w.cell? ⟨tc,0,none⟩=some (.pointer (some ⟨sb,0,none⟩)))(h2:w.cell? ⟨bc,0,none⟩=some (.slice a n c))(h3:w.cell? ⟨sb,0,none⟩=some (.pointer (some ⟨db,0,none⟩)))
  (hd:aG w db mb tb D) (hw:aY D) (hB:Bytes w (.slice a n c) b) :
  Calls Tryz.prog 175 #[.pointer (some ⟨tc,0,none⟩),.pointer (some ⟨bc,0,none⟩)] w (dV db mb tb (aV D bV b) w):=by
 have HD:=hid hd;have HW:=hid hw;have HB:=hid hB;have XC:=hid (And.intro h1 (And.intro h2 h3));clear hd hw hB h1 h2 h3;go_enter Tryz.func175,Tryz.ntmps175;go_wp2_with fail;refine aU [0,1,3,7,0,31,63] 0 (fun w'=>w'.cell? ⟨tc,0,none⟩=some (.pointer (some ⟨sb,0,none⟩))/\w'.cell? ⟨bc,0,none⟩=some (.slice a n c)/\w'.cell? ⟨sb,0,none⟩=some (.pointer (some ⟨db,0,none⟩))) (by kernel_rfl) ?_;refine aB [0,1,2,3,4] (by kernel_rfl) (L:=bm 7 31) (by kernel_rfl) (f':=2) rfl (fun _ _ _ _ h=>h) (fun w o h=>(((aR.cell _ _).and ((aR.cell _ _).and (aR.cell _ _))).alloc h o)) (.inr XC.out) ?_;simp only[sF,sL]
 iterate 5 (first|(refine aW _ (by rfl) (fun w' hs=>by obtain⟨y0,y1,y2⟩:=hs;go_simp;try with_reducible rfl) rfl ?_;simp only[Act.put,sA])|(refine aC _ (by rfl) (fun w'=>by go_simp;try with_reducible rfl) ?_;simp only[Act.put,sA]))
 refine aI ?_;refine aM 5 (by kernel_rfl) (L:=bm 7 63) (by kernel_rfl) ?_;simp only[sL];go_wp2_with fail;refine(wJ db mb tb D bV (.slice a n c) b _ (by first|exact HD.out|exact HD.out.below ((Below.refl _ _).drew)) HW.out (by first|exact HB.out|exact HB.out.below ((Below.refl _ _).drew)) (by decide)).mono ?_;rintro e w1 ⟨rfl,hd1,hk1⟩;have D1:=hid hd1;have K1:Hid (Kept w w1 (aZ db mb tb)):=hid (by first|exact hk1|exact(Kept.drew _ _).trans hk1);clear hd1 hk1;go_wp2_with fail;refine aH nofun ?_;refine aB [6] (by kernel_rfl) (L:=bm 7 127) (by kernel_rfl) (f':=0) rfl (fun _ _ _ _ h=>h) (fun w o h=>(((aR.cell _ _).and ((aR.cell _ _).and (aR.cell _ _))).alloc h o)) (.inl (by kernel_rfl)) ?_;simp only[sF,sL]
 iterate 1 (refine aC _ (by rfl) (fun w'=>by go_simp;try with_reducible rfl) ?_;simp only[Act.put,sA])
 refine aI ?_;refine bC (by kernel_rfl) ?_;go_wp2_with fail;go_ret;exact⟨rfl,D1.out,K1.out⟩

theorem aGc (tc sb db mb tb:Nat)(D:aA)(w:World)(h1:w.cell? ⟨tc,0,none⟩=some (.pointer (some ⟨sb,0,none⟩)))(h3:w.cell? ⟨sb,0,none⟩=some (.pointer (some ⟨db,0,none⟩)))
  (hd:aG w db mb tb D) (hw:aY D) :
  Calls Tryz.prog 176 #[.pointer (some ⟨tc,0,none⟩)] w (dV db mb tb (syncD D bV) w):=by
 have HD:=hid hd;have HW:=hid hw;clear hd hw;go_enter Tryz.func176,Tryz.ntmps176;go_wp2_with fail;refine(iY db mb tb D bV w HD.out HW.out.wf (by decide)).mono ?_;rintro e w1 ⟨rfl,hd1,hk1⟩;have D1:=hid hd1;have K1:=hid hk1;clear hd1 hk1 h1 h3;go_wp2_with fail;go_ret;exact⟨rfl,D1.out,K1.out⟩

theorem aGd (tc sb db mb tb:Nat)(D:aA)(w:World)(h1:w.cell? ⟨tc,0,none⟩=some (.pointer (some ⟨sb,0,none⟩)))(h3:w.cell? ⟨sb,0,none⟩=some (.pointer (some ⟨db,0,none⟩)))
  (hd:aG w db mb tb D) (hw:aY D) :
  Calls Tryz.prog 177 #[.pointer (some ⟨tc,0,none⟩)] w (dV db mb tb (kC D bV eY) w):=by
 have HD:=hid hd;have HW:=hid hw;clear hd hw;go_enter Tryz.func177,Tryz.ntmps177;go_wp2_with fail;refine(aFo db mb tb D bV eY w HD.out HW.out.wf (by decide) (by decide)).mono ?_;rintro e w1 ⟨rfl,hd1,hk1⟩;have D1:=hid hd1;have K1:=hid hk1;clear hd1 hk1 h1 h3;go_wp2_with fail;go_ret;exact⟨rfl,D1.out,K1.out⟩

def rK (w:World)(p:Option Addr):Prop:=p=none \/ ∃b,p=some ⟨b,0,none⟩/\w.cell? ⟨b,0,none⟩=some (.pointer none)
theorem rK.below {w w':World}{p:Option Addr}(h:rK w p)(hb:Below w.heap.size w w'):rK w' p:=by
 rcases h with h|⟨b,h,c⟩
 ·exact .inl h
 ·exact .inr ⟨b,h,Below.at hb c (World.block_lt_of_cell? _ _ c)⟩
theorem aHq (p:Option Addr)(w:World)(h:rK w p):Calls Tryz.prog 148 #[.pointer p] w fun e w'=>e = .returned (.bool true)/\w=w':=by
 rcases h with rfl|⟨b,rfl,c0⟩
 all_goals
  go_enter Tryz.func148,Tryz.ntmps148;go_wp2_with fail;go_ret;exact⟨rfl,rfl⟩
theorem aIT (p:Option Addr)(w:World)(h:rK w p):Calls Tryz.prog 101 #[.pointer p] w fun e w'=>e = .returned (.tuple #[.agg #[.int .u64 0,.int .u64 0,.slice none 0 0,.slice none 0 0],.bool false])/\Below w.heap.size w w':=by
 have H:=hid h;clear h;go_enter Tryz.func101,Tryz.ntmps101;go_wp2_with fail;have R1:Hid (bR (w.alloc (.cells #[.int .u64 0,.int .u64 0,.slice none 0 0,.slice none 0 0] 75)) w.heap.size 0 0 (.slice none 0 0) (.slice none 0 0)):=hid (bR.new w);have B1:Hid (Below w.heap.size w (w.alloc (.cells #[.int .u64 0,.int .u64 0,.slice none 0 0,.slice none 0 0] 75))):=hid ((Below.refl _ _).alloc (Nat.le_refl _) _);generalize World.alloc w _=w1 at *
 refine(aHq p w1 (H.out.below B1.out)).mono ?_;rintro e w2 ⟨rfl,rfl⟩;obtain⟨q0,q1,q2,q3,g0,g1,g2,g3⟩:=R1.out;go_wp2_with fail;generalize hwF:World.setCell _ _ _=wF;have KF:Hid (Kept w1 wF (fun k=>k=w.heap.size)):=hid (by subst hwF;exact Kept.eN _ _ _ _ _ _);have RF:Hid (bR wF w.heap.size 0 0 (.slice none 0 0) (.slice none 0 0)):=hid (by subst hwF;exact R1.out.eN 0 0 _ _);clear hwF q0 q1 q2 q3 g0 g1 g2 g3;obtain⟨q0,q1,q2,q3,_,_,_,_⟩:=RF.out;refine bodyPost_ret (v:=.tuple #[.agg #[.int .u64 0,.int .u64 0,.slice none 0 0,.slice none 0 0],.bool false]) (by simp[results,Tryz.results101,go_sem,q0,q1,q2,q3]) rfl ?_;exact⟨rfl,B1.out.trans (KF.out.below B1.out.size (fun k hk=>by omega))⟩
theorem aGg (db mb tb:Nat)(D:aA)(w:World)(hd:aG w db mb tb D)(hw:aY D)(hg:(bD D).2≠0) :
  Calls Tryz.prog 100 #[.pointer (some ⟨db,0,none⟩)] w fun e w'=>e = .returned (.tuple #[.pointer none,.int .i64 (bD D).2])/\aG w' db mb tb (bD D).1/\Kept w w' (aZ db mb tb):=by
 have HD:=hid hd;have HW:=hid hw;obtain⟨r,hr⟩:∃r,bD D=r:=⟨_,rfl⟩;obtain⟨D1,e1⟩:=r;have HR:=hid hr;rw[hr]at hg ⊢;have hgb:((e1:Int) != 0)=true:=by simp;simp at hg;omega
 clear hd hw hg hr;go_enter Tryz.func100,Tryz.ntmps100;go_wp2_with fail;have B1:Hid (Below w.heap.size w (w.alloc (.cells #[.pointer (some ⟨db,0,none⟩),.int .u64 0,.int .u64 0,.slice none 0 0,.slice none 0 0] 233))):=hid ((Below.refl _ _).alloc (Nat.le_refl _) _);have C1:Hid ((w.alloc (.cells #[.pointer (some ⟨db,0,none⟩),.int .u64 0,.int .u64 0,.slice none 0 0,.slice none 0 0] 233)).cell? ⟨w.heap.size,0,none⟩=some (.pointer (some ⟨db,0,none⟩))):=hid (by go_cell);generalize World.alloc w _=w1 at *
 refine(nD w.heap.size db mb tb D w1 C1.out (HD.out.below B1.out) HW.out).mono ?_;rintro e w2 ⟨rfl,hd2,hk2⟩;rw[HR.out]at hd2 ⊢;have D2:=hid hd2;have K2:Hid (Kept w w2 (aZ db mb tb)):=hid ((Kept.cE B1.out).trans hk2);clear hd2 hk2;go_wp2_with fail
 go_ret2
 exact⟨rfl,D2.out,K2.out⟩
