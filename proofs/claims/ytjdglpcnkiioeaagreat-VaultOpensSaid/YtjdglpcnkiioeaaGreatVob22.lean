/- For vltopens_law_holds. -/
import Derived.Deep.Upon
import Derived.Test.YtjdglpcnkiioeaaGreatVob20
set_option maxHeartbeats 16000000
set_option maxRecDepth 100000
namespace Go.Proofs.YtjdglpcnkiioeaaGreat
open Go.RowKit Go.Maps Go.Proofs.Own

def lI (l:List Nat):List Value:=l.map fun c:Nat=>Value.int .u8 c
theorem iQ (l:List Nat):(lI l).length=l.length:=by simp[lI]
theorem aGq (l:List Nat):∀u ∈ lI l,u.oneCell'=true:=by
 intro u hu;simp only[lI,List.mem_map]at hu;obtain⟨c,_,rfl⟩:=hu;rfl
theorem Bytes.news {w:World}{ad:Addr}{n c:Nat}{l:List Nat}(h:Bytes w (.slice (some ad) n c) l):∀j u,(lI l)[j]? = some u->w.cell? (ad.add j)=some u:=by
 intro j u hu;have hj:j<l.length:=by have:=(List.getElem?_eq_some_iff.1 hu).1;rwa [iQ]at this
 obtain⟨_,_,hc⟩:=h.cells;obtain⟨b,o,e,h1⟩:=hc j hj;cases e;rw[Addr.add_lit,h1];simp[lI,hj]at hu;rw[<- hu]
theorem Bytes.aCt {w:World}{n c:Nat}{l:List Nat}(h:Bytes w (.slice none n c) l):l = []:=by
 obtain⟨_,_,hc⟩:=h.cells;cases l with
 | nil=>rfl
 | cons x l=>obtain⟨b,o,e,_⟩:=hc 0 (by simp);cases e
theorem Bytes.src {P:Program}{t e:TypeId}(I:jI P t e .u8 1){w:World}{v:Value}{l:List Nat}(h:Bytes w v l):Src P 1 t v l.length (lI l) w:=by
 obtain⟨a,c,rfl,_⟩:=h.shape;cases a with
 | some ad=>exact Src.ofSlice w I.under ad _ c _ (by rw[iQ,Nat.mul_one]) h.news (aGq l)
 | none =>
  obtain rfl:=h.aCt;exact Src.ofNil w I.under c
theorem Bytes.first {P:Program}{w:World}{a:Option Addr}{n c:Nat}{l:List Nat}(h:Bytes w (.slice a n c) l):(Builtin.firstCells 1 l.length (.slice a n c)).run P w = .ok (lI l).toArray w:=by
 cases a with
 | some ad=>exact run_firstCells_some w 1 l.length ad n c _ (by rw[iQ,Nat.mul_one]) h.news
 | none =>
  obtain rfl:=h.aCt;exact run_firstCells_none w 1 0 n c
theorem Bytes.aCw {w:World}{g:Nat}{cs:Array Value}{e:TypeId}{fr:Nat × Nat}{c:Nat}{l:List Nat}(hb:w.heap[g]? = some (.cells cs e fr))(hcs:∀j (h:j<l.length),cs[j]? = some (.int .u8 (l[j]:Nat)))(hle:l.length<=c)(hl:∀x ∈ l,x<256)(hs:l.length<=2097152) :
  Bytes w (.slice (some ⟨g,0,none⟩) l.length c) l:=by
 refine⟨⟨_,_,rfl,hle⟩,⟨_,_,by rw[aS],fun j hj=>⟨g,0,rfl,?_⟩⟩,hl,hs⟩;have hj':j<l.length:=by rwa [aS]at hj
 rw[ints_at,Nat.zero_add];simp only[World.cell?];rw[hb];exact hcs j hj'

theorem vI {P:Program}{t e:TypeId}(I:jI P t e .u8 1)(w:World)(ty:TypeId)(a:Option Addr)(n:Nat)(bv:Value)(l b:List Nat)(h1:Bytes w (.slice a n n) l)(h2:Bytes w bv b)(hs:l.length+b.length<=2097152) :
  ∃a' c' w',(Builtin.append_ #[t,t] ty #[.slice a n n,bv]).run P w = .ok (.slice a' (l.length+b.length) c') w'/\Bytes w' (.slice a' (l.length+b.length) c') (l++b)/\Below w.heap.size w w' /\
   ((b = []/\Value.slice a' (l.length+b.length) c' = .slice a n n)\/(Value.slice a' (l.length+b.length) c').ownBlock=some w.heap.size):=by
 obtain⟨i0,hi,hz0,hz1,hz2⟩:=info_parts I.info;obtain⟨hn,_,_⟩:=h1.cells;have hsrc:=h2.src I;by_cases hb0:b = []
 ·subst hb0;have hr:=run_append_nothing (P:=P) w t t ty e i0 I.under hi a n n (Nat.le_refl _) bv (by rw[hz1];exact hsrc);refine⟨a,n,w,by rw[hr,hn];rfl,by simpa [hn] using h1,Below.refl _ _,.inl ⟨rfl,by rw[hn];rfl⟩⟩
 ·have hbl:0<b.length:=List.length_pos_iff.2 hb0;have hf:=(h1.drew).first (P:=P)
  have hr:=run_append_grow_src (P:=P) w t t ty e i0 (.int .u8 0) I.under hi hz0 a n n (lI l) (by rw[hz1,<- hn]at *;exact hf) bv b.length (lI b) (by rw[hz1];exact hsrc) (by omega) (by omega)
   (by rw[hz2];exact growslice_fits (by omega) (by omega))
  refine⟨_,_,_,by rw[hr,hn],?_,((Below.refl _ _).drew).alloc (Nat.le_refl _) _,.inr rfl⟩;have hge:=grownCap_ge w (n+b.length) n e;rw[hn]at hge;have hlen:(l++b).length=l.length+b.length:=List.length_append;rw[<- hlen];refine Bytes.aCw (heap_alloc_new w.drew _) (fun j hj=>?_) (by rw[hlen];exact hge) (fun x hx=>?_) (by rw[hlen];exact hs)
  ·rw[Array.getElem?_append_left (by rw[List.size_toArray,List.length_append,iQ,iQ,<- hlen];exact hj)];rw[List.getElem?_toArray];have:lI l++lI b=lI (l++b):=by simp[lI]
   rw[this];unfold lI;rw[List.getElem?_map,List.getElem?_eq_getElem hj];rfl
  ·rcases List.mem_append.1 hx with h|h
   ·exact h1.lt x h
   ·exact h2.lt x h

theorem rI {P:Program}{t e:TypeId}(I:jI P t e .u8 1){ops:Array Oper}{rest:List Oper}{o:Oper}{a:Act}{Q:Exit->Act->World->Prop}{w:World}(hgd:o.guard=none)(s x:Operand)
  (ho:o.op = .call { callee:=.builtin .append,args:=#[s,x],argTypes:=#[t,t] }) (ad:Option Addr) (n:Nat) (bv:Value) (l b:List Nat) (hs:a.eval s = .slice ad n n) (hx:a.eval x=bv) (h1:Bytes w (.slice ad n n) l) (h2:Bytes w bv b) (hsz:l.length+b.length<=2097152)
  (hK:∀a' c' w',Bytes w' (.slice a' (l.length+b.length) c') (l++b)->Below w.heap.size w w'->((b = []/\Value.slice a' (l.length+b.length) c' = .slice ad n n)\/(Value.slice a' (l.length+b.length) c').ownBlock=some w.heap.size)->wpList P ops Q rest (a.put o.dst (.slice a' (l.length+b.length) c')) w') :
  wpList P ops Q (o::rest) a w:=by
 refine wpList_plain hgd fun K hK'=>?_;obtain⟨a',c',w',hrun,r1,r2,r3⟩:=vI (P:=P) I w o.type ad n bv l b h1 h2 hsz;unfold Oper.wp execOp;simp only[ho,resolve,invoke,builtin,Sem.run_bind,Sem.run_pure,Result.andThen_ok,List.map_toArray,List.map_cons,List.map_nil,hs,hx,hrun];exact hK' _ _ (hK a' c' w' r1 r2 r3)
end Go.Proofs.YtjdglpcnkiioeaaGreat
namespace Go.Proofs.YtjdglpcnkiioeaaGreat
open Go.Lib (hid)
open Go.RowKit Go.Maps Go.Proofs.Own

def cW (D:aA)(n:ByteArray):aJ:=(aE n D.files).getD ⟨n,[],0⟩
theorem aFy (D:aA)(n:ByteArray):(cW D n).name=n:=by
 unfold cW;cases e:aE n D.files with
 | none=>rfl
 | some f=>exact(cK e).1
def mF (D:aA)(n:ByteArray)(b:List Nat):Nat :=
 if D.down=true then 50 else if ¬(1<=n.size/\n.size<=16) then 2 else if (aE n D.files=none/\128<=D.files.length)\/iV D<b.length then 30 else 0
def lL (D:aA)(n:ByteArray)(b:List Nat):aA:={ D with files:=bL { cW D n with all:=(cW D n).all++b } D.files }
def aV (D:aA)(n:ByteArray)(b:List Nat):aA × Nat:=if mF D n b≠0 then (D,mF D n b) else (bP (lL D n b),gJ D)
theorem dQ.zero (w:World)(db mb tb:Nat)(n:ByteArray):dQ w db mb tb (.agg #[.slice none 0 0,.int .i64 0]) ⟨n,[],0⟩:=⟨none,0,rfl,Bytes.nil w,.inl rfl⟩
theorem rO (db mb tb:Nat)(D:aA)(n:ByteArray)(w:World)(h:aG w db mb tb D)(hd:D.down=false)(hn:n.size<=maxLen) :
  Calls Tryz.prog 72 #[.pointer (some ⟨db,0,none⟩),.string n] w fun e w'=>∃v,e = .returned (.tuple #[v,.int .i64 (bI D n)])/\dQ w' db mb tb v (cW D n)/\Below w.heap.size w w':=by
 unfold bI cW;rw[if_neg (by rw[hd];decide)];cases e:aE n D.files with
 | none =>
  refine(aB2 db mb tb D n w h hd hn e).mono ?_;rintro e w1 ⟨rfl,hb⟩;exact⟨_,rfl,dQ.zero _ _ _ _ _,hb⟩
 | some f =>
  refine(eW db mb tb D n f w h hd hn e).mono ?_;rintro e w1 ⟨v,rfl,hf,hb⟩;exact⟨v,rfl,hf,hb⟩
theorem aG3 {D:aA}{n:ByteArray}(hd:D.down=false):(bI D n=0/\aE n D.files≠none)\/(bI D n=31/\aE n D.files=none):=by
 unfold bI;rw[if_neg (by rw[hd];decide)];by_cases h:aE n D.files=none
 ·exact .inr ⟨if_pos h,h⟩
 ·exact .inl ⟨if_neg h,h⟩

theorem aFj (db mb tb:Nat)(D:aA)(n:ByteArray)(bv:Value)(w:World)(h:aG w db mb tb D)(hd:D.down=true) :
  Calls Tryz.prog 32 #[.pointer (some ⟨db,0,none⟩),.string n,bv] w (dV db mb tb (D,50) w):=by
 have C:=hid (wK db mb tb D n w h hd);have H:=hid h;clear h hd;go_enter Tryz.func32,Tryz.ntmps32;go_wp2_with fail;refine C.out.mono ?_;rintro e w1 ⟨rfl,hb1⟩;have B1:=hid hb1;have L1:=hb1.size;clear hb1;go_wp2_with fail;go_ret;have BF:=B1.out.alloc L1 (.cells #[.slice none 0 0,.int .i64 0] 134);exact⟨rfl,H.out.below BF,Kept.cE BF⟩

theorem aAc (db mb tb:Nat)(D:aA)(n:ByteArray)(bv:Value)(b:List Nat)(w:World)(h:aG w db mb tb D)(hw:DWf D)(ht:total D.files<=4294967296)(hB:Bytes w bv b)(k:Nat)(hk:k=0\/k=31)(hd:D.down=false)(hn:n.size<=maxLen)(hfe:bI D n=k)(hnm:¬(1<=n.size/\n.size<=16)) :
  Calls Tryz.prog 32 #[.pointer (some ⟨db,0,none⟩),.string n,bv] w (dV db mb tb (D,2) w):=by
 have HFE:=hid hfe;have HNM:Hid (decide (1<=n.size/\n.size<=16)=false):=hid (decide_eq_false hnm);clear hfe hnm;rcases hk with rfl|rfl
 all_goals
  have C:=hid (rO db mb tb D n w h hd hn);have H:=hid h;have HW:=hid hw;have HTOT:=hid ht;have HB:=hid hB;have HN:=hid (cX hn);have HM3:=hid h.lt3;have hl:=h.lt;have many:=hw.many;have HND:Hid (n.size<=9223372036854775807):=hid (by unfold maxLen at hn;omega);obtain⟨ba,bc,rfl,_⟩:=hB.shape;have hbl:(b.length:Int)<=2097152:=by have:=hB.small;omega
  clear h hw hd hn ht hB;go_enter Tryz.func32,Tryz.ntmps32;go_wp2_with fail;refine C.out.mono ?_;rintro e w1 ⟨v,rfl,hfi,hb1⟩;have HFI:=hid hfi;obtain⟨a,c,rfl,_,_⟩:=hfi;have B1:=hid hb1;have L1:=hb1.size;clear hb1;rw[HFE.out];generalize hG:cW D n=f at *
  go_wp2_with fail;generalize hW:World.alloc w1 _=w2;have B2:Hid (Below w.heap.size w w2):=hid (by subst hW;exact B1.out.alloc L1 _);have B12:Hid (Below w1.heap.size w1 w2):=hid (by subst hW;exact(Below.refl _ _).alloc (Nat.le_refl _) _);have X2:Hid (w2.cell? ⟨w1.heap.size,0,none⟩=some (.slice a f.all.length c)/\w2.cell? ⟨w1.heap.size,1,none⟩=some (.int .i64 f.kept)/\w2.frozen? ⟨w1.heap.size,0,none⟩=false/\w2.frozen? ⟨w1.heap.size,1,none⟩=false/\w1.heap.size<w2.heap.size):=hid (by subst hW;exact⟨by go_cell,by go_cell,by simp,by simp,by simp⟩);have D2:Hid (aG w2 db mb tb D):=hid (H.out.below B2.out);have NB:Hid (¬aZ db mb tb w1.heap.size):=hid fun e=>by have:=HM3.out _ e;omega
  clear hW;refine(iI n _ HND.out).mono ?_;rintro e w2' ⟨rfl,rfl⟩;rw[HNM.out];go_wp2_with fail;go_ret;exact⟨rfl,D2.out,Kept.cE B2.out⟩

theorem aFl (db mb tb:Nat)(D:aA)(n:ByteArray)(bv:Value)(b:List Nat)(w:World)(h:aG w db mb tb D)(hw:DWf D)(ht:total D.files<=4294967296)(hB:Bytes w bv b)(hd:D.down=false)(hn:n.size<=maxLen)(hfe:bI D n=31)(hnm:1<=n.size/\n.size<=16)(hm:128<=D.files.length) :
  Calls Tryz.prog 32 #[.pointer (some ⟨db,0,none⟩),.string n,bv] w (dV db mb tb (D,30) w):=by
 have HFE:=hid hfe;have HNM:Hid (decide (1<=n.size/\n.size<=16)=true):=hid (decide_eq_true hnm);have hmi:(128:Int)<=(D.files.length:Int):=by omega
 clear hfe hnm hm;have C:=hid (rO db mb tb D n w h hd hn);have H:=hid h;have HW:=hid hw;have HTOT:=hid ht;have HB:=hid hB;have HN:=hid (cX hn);have HM3:=hid h.lt3;have hl:=h.lt;have many:=hw.many;have HND:Hid (n.size<=9223372036854775807):=hid (by unfold maxLen at hn;omega);obtain⟨ba,bc,rfl,_⟩:=hB.shape;have hbl:(b.length:Int)<=2097152:=by have:=hB.small;omega
 clear h hw hd hn ht hB;go_enter Tryz.func32,Tryz.ntmps32;go_wp2_with fail;refine C.out.mono ?_;rintro e w1 ⟨v,rfl,hfi,hb1⟩;have HFI:=hid hfi;obtain⟨a,c,rfl,_,_⟩:=hfi;have B1:=hid hb1;have L1:=hb1.size;clear hb1;rw[HFE.out];generalize hG:cW D n=f at *
 go_wp2_with fail;generalize hW:World.alloc w1 _=w2;have B2:Hid (Below w.heap.size w w2):=hid (by subst hW;exact B1.out.alloc L1 _);have B12:Hid (Below w1.heap.size w1 w2):=hid (by subst hW;exact(Below.refl _ _).alloc (Nat.le_refl _) _);have X2:Hid (w2.cell? ⟨w1.heap.size,0,none⟩=some (.slice a f.all.length c)/\w2.cell? ⟨w1.heap.size,1,none⟩=some (.int .i64 f.kept)/\w2.frozen? ⟨w1.heap.size,0,none⟩=false/\w2.frozen? ⟨w1.heap.size,1,none⟩=false/\w1.heap.size<w2.heap.size):=hid (by subst hW;exact⟨by go_cell,by go_cell,by simp,by simp,by simp⟩);have D2:Hid (aG w2 db mb tb D):=hid (H.out.below B2.out);have NB:Hid (¬aZ db mb tb w1.heap.size):=hid fun e=>by have:=HM3.out _ e;omega
 clear hW;refine(iI n _ HND.out).mono ?_;rintro e w2' ⟨rfl,rfl⟩;rw[HNM.out];have D2c:=D2.out.c0;have hlen:∀ty,(Builtin.len_ #[47] ty #[.map (some mb)]).run Tryz.prog w2 = .ok (.int .i64 D.files.length) w2:=fun ty=>by
  obtain⟨vals,hm,_⟩:=D2.out.fs;have:=World.ownsMap.len hm Tryz.underlying47 ty;rw[mP]at this;exact this
 go_wp2_with fail;go_ret;exact⟨rfl,D2.out,Kept.cE B2.out⟩

theorem aFk (db mb tb:Nat)(D:aA)(n:ByteArray)(bv:Value)(b:List Nat)(w:World)(h:aG w db mb tb D)(hw:DWf D)(ht:total D.files<=4294967296)(hB:Bytes w bv b)(k:Nat)(hk:k=0\/(k=31/\D.files.length<128))(hd:D.down=false)(hn:n.size<=maxLen)(hfe:bI D n=k)(hnm:1<=n.size/\n.size<=16)(hfr:iV D<b.length) :
  Calls Tryz.prog 32 #[.pointer (some ⟨db,0,none⟩),.string n,bv] w (dV db mb tb (D,30) w):=by
 have HFE:=hid hfe;have HNM:Hid (decide (1<=n.size/\n.size<=16)=true):=hid (decide_eq_true hnm);have hmi:k=0\/(k=31/\(D.files.length:Int)<128):=by omega
 clear hfe hnm hk;rcases hmi with rfl|⟨rfl,hmi⟩
 all_goals
  have C:=hid (rO db mb tb D n w h hd hn);have H:=hid h;have HW:=hid hw;have HTOT:=hid ht;have HB:=hid hB;have HN:=hid (cX hn);have HM3:=hid h.lt3;have hl:=h.lt;have many:=hw.many;have HND:Hid (n.size<=9223372036854775807):=hid (by unfold maxLen at hn;omega);obtain⟨ba,bc,rfl,_⟩:=hB.shape;have hbl:(b.length:Int)<=2097152:=by have:=hB.small;omega
  clear h hw hd hn ht hB;go_enter Tryz.func32,Tryz.ntmps32;go_wp2_with fail;refine C.out.mono ?_;rintro e w1 ⟨v,rfl,hfi,hb1⟩;have HFI:=hid hfi;obtain⟨a,c,rfl,_,_⟩:=hfi;have B1:=hid hb1;have L1:=hb1.size;clear hb1;rw[HFE.out];generalize hG:cW D n=f at *
  go_wp2_with fail;generalize hW:World.alloc w1 _=w2;have B2:Hid (Below w.heap.size w w2):=hid (by subst hW;exact B1.out.alloc L1 _);have B12:Hid (Below w1.heap.size w1 w2):=hid (by subst hW;exact(Below.refl _ _).alloc (Nat.le_refl _) _);have X2:Hid (w2.cell? ⟨w1.heap.size,0,none⟩=some (.slice a f.all.length c)/\w2.cell? ⟨w1.heap.size,1,none⟩=some (.int .i64 f.kept)/\w2.frozen? ⟨w1.heap.size,0,none⟩=false/\w2.frozen? ⟨w1.heap.size,1,none⟩=false/\w1.heap.size<w2.heap.size):=hid (by subst hW;exact⟨by go_cell,by go_cell,by simp,by simp,by simp⟩);have D2:Hid (aG w2 db mb tb D):=hid (H.out.below B2.out);have NB:Hid (¬aZ db mb tb w1.heap.size):=hid fun e=>by have:=HM3.out _ e;omega
  clear hW;refine(iI n _ HND.out).mono ?_;rintro e w2' ⟨rfl,rfl⟩;rw[HNM.out];have D2c:=D2.out.c0;have hlen:∀ty,(Builtin.len_ #[47] ty #[.map (some mb)]).run Tryz.prog w2 = .ok (.int .i64 D.files.length) w2:=fun ty=>by
   obtain⟨vals,hm,_⟩:=D2.out.fs;have:=World.ownsMap.len hm Tryz.underlying47 ty;rw[mP]at this;exact this
  go_wp2_with fail;refine(aAd db mb tb D _ D2.out HW.out HTOT.out).mono ?_;rintro e w3 ⟨rfl,hb3⟩;have B3:=hid hb3;have L3:=hb3.size;clear hb3;generalize iV D=fr at hfr;go_wp2_with fail;go_ret;have BF:Below w.heap.size w w3:=B2.out.trans (B3.out.mono B2.out.size);exact⟨rfl,H.out.below BF,Kept.cE BF⟩

theorem aIv (db mb tb:Nat)(D:aA)(n:ByteArray)(bv:Value)(b:List Nat)(w:World)(h:aG w db mb tb D)(hw:DWf D)(ht:total D.files<=4294967296)(hB:Bytes w bv b)(k:Nat)(hk:k=0\/(k=31/\D.files.length<128))(hd:D.down=false)(hn:n.size<=maxLen)(hfe:bI D n=k)(hnm:1<=n.size/\n.size<=16)(hfr:¬iV D<b.length)(hsum:(cW D n).all.length+b.length<=2097152)(hwa:DWf (lL D n b)) :
  Calls Tryz.prog 32 #[.pointer (some ⟨db,0,none⟩),.string n,bv] w (dV db mb tb (bP (lL D n b),gJ (lL D n b)) w):=by
 have HFE:=hid hfe;have HNM:Hid (decide (1<=n.size/\n.size<=16)=true):=hid (decide_eq_true hnm);have hmi:k=0\/(k=31/\(D.files.length:Int)<128):=by omega
 have HSUM:=hid hsum;have HWA:=hid hwa;unfold lL at HWA ⊢;clear hfe hnm hk hsum hwa;rcases hmi with rfl|⟨rfl,hmi⟩
 all_goals
  have C:=hid (rO db mb tb D n w h hd hn);have H:=hid h;have HW:=hid hw;have HTOT:=hid ht;have HB:=hid hB;have HN:=hid (cX hn);have HM3:=hid h.lt3;have hl:=h.lt;have many:=hw.many;have HND:Hid (n.size<=9223372036854775807):=hid (by unfold maxLen at hn;omega);obtain⟨ba,bc,rfl,_⟩:=hB.shape;have hbl:(b.length:Int)<=2097152:=by have:=hB.small;omega
  clear h hw hd hn ht hB;go_enter Tryz.func32,Tryz.ntmps32;go_wp2_with fail;refine C.out.mono ?_;rintro e w1 ⟨v,rfl,hfi,hb1⟩;have HFI:=hid hfi;obtain⟨a,c,rfl,_,_⟩:=hfi;have B1:=hid hb1;have L1:=hb1.size;clear hb1;rw[HFE.out];generalize hG:cW D n=f at *
  go_wp2_with fail;generalize hW:World.alloc w1 _=w2;have B2:Hid (Below w.heap.size w w2):=hid (by subst hW;exact B1.out.alloc L1 _);have B12:Hid (Below w1.heap.size w1 w2):=hid (by subst hW;exact(Below.refl _ _).alloc (Nat.le_refl _) _);have X2:Hid (w2.cell? ⟨w1.heap.size,0,none⟩=some (.slice a f.all.length c)/\w2.cell? ⟨w1.heap.size,1,none⟩=some (.int .i64 f.kept)/\w2.frozen? ⟨w1.heap.size,0,none⟩=false/\w2.frozen? ⟨w1.heap.size,1,none⟩=false/\w1.heap.size<w2.heap.size):=hid (by subst hW;exact⟨by go_cell,by go_cell,by simp,by simp,by simp⟩);have D2:Hid (aG w2 db mb tb D):=hid (H.out.below B2.out);have NB:Hid (¬aZ db mb tb w1.heap.size):=hid fun e=>by have:=HM3.out _ e;omega
  clear hW;refine(iI n _ HND.out).mono ?_;rintro e w2' ⟨rfl,rfl⟩;rw[HNM.out];have D2c:=D2.out.c0;have hlen:∀ty,(Builtin.len_ #[47] ty #[.map (some mb)]).run Tryz.prog w2 = .ok (.int .i64 D.files.length) w2:=fun ty=>by
   obtain⟨vals,hm,_⟩:=D2.out.fs;have:=World.ownsMap.len hm Tryz.underlying47 ty;rw[mP]at this;exact this
  go_wp2_with fail;refine(aAd db mb tb D _ D2.out HW.out HTOT.out).mono ?_;rintro e w3 ⟨rfl,hb3⟩;have B3:=hid hb3;have L3:=hb3.size;clear hb3;generalize iV D=fr at hfr;clear hlen D2c;have HSZ:Hid (f.all.length+b.length<=2097152):=hid (by have:=HSUM.out;omega);have hfl:(f.all.length:Int)<=2097152:=by have:=HSZ.out;omega
  have HFB:Hid (Bytes w3 (.slice a f.all.length c) f.all):=hid (by
   obtain⟨a',c',e,h1,_⟩:=(HFI.out.below B12.out).below B3.out;cases e;exact h1)
  obtain⟨af,HBF,HOF,hcut⟩:∃af,Hid (Bytes w3 (.slice af f.all.length f.all.length) f.all)/\Hid ((Value.slice af f.all.length f.all.length).ownBlock=(Value.slice a f.all.length c).ownBlock) /\ ∀w',(Instr.slice 36 (.slice a f.all.length c) none (some (.int .i64 f.all.length)) (some (.int .i64 f.all.length))).run Tryz.prog w' = .ok (.slice af f.all.length f.all.length) w':=by
   obtain⟨af,h1,h0,h2⟩:=HFB.out.aEB Tryz.u8s f.all.length (Nat.le_refl _);rw[List.take_length]at h1;exact⟨af,hid h1,hid h0,h2⟩
  have HBB:Hid (Bytes w3 (.slice ba b.length bc) b):=hid ((HB.out.below B2.out).below B3.out);have X3:Hid (w3.cell? ⟨w1.heap.size,0,none⟩=some (.slice a f.all.length c)/\w3.cell? ⟨w1.heap.size,1,none⟩=some (.int .i64 f.kept)/\w3.frozen? ⟨w1.heap.size,0,none⟩=false/\w1.heap.size<w3.heap.size):=hid ⟨Below.at B3.out X2.out.1 X2.out.2.2.2.2,Below.at B3.out X2.out.2.1 X2.out.2.2.2.2,by rw[B3.out.frozen (p:=⟨w1.heap.size,0,none⟩) X2.out.2.2.2.2];exact X2.out.2.2.1,Nat.lt_of_lt_of_le X2.out.2.2.2.2 L3⟩;have x0:=X3.out.1
  go_wp2_with (at_builtin;refine rI Tryz.u8s rfl _ _ rfl af f.all.length (.slice ba b.length bc) f.all b rfl rfl HBF.out HBB.out HSZ.out ?_;intro a5 c5 w5 hB5 hb5 ho5;have HB5:=hid hB5;have B5:=hid hb5;have HO5:=hid ho5;have L5:=hb5.size;have x50:=Below.at hb5 X3.out.1 X3.out.2.2.2;have f50:w5.frozen? ⟨w1.heap.size,0,none⟩=false:=(by rw[hb5.frozen (p:=⟨w1.heap.size,0,none⟩) X3.out.2.2.2];exact X3.out.2.2.1);clear hB5 hb5 ho5 x0)
  generalize hW4:World.setCell w5 _ _=w4;have X5:Hid (w5.cell? ⟨w1.heap.size,1,none⟩=some (.int .i64 f.kept)):=hid (Below.at B5.out X3.out.2.1 X3.out.2.2.2);have K4:Hid (Kept w5 w4 (fun k=>k=w1.heap.size)):=hid (by subst hW4;exact Kept.setCell w5 ⟨w1.heap.size,0,none⟩ _);have D5:Hid (aG w5 db mb tb D):=hid ((D2.out.below B3.out).below B5.out);have D4:Hid (aG w4 db mb tb D):=hid (by subst hW4;exact D5.out.setOther _ NB.out (fun x e=>by rw[x50]at e;cases e));have XR:Hid (w4.cell? ⟨db,0,none⟩=some (.map (some mb))/\w4.cell? ⟨w1.heap.size,0,none⟩=some (.slice a5 (f.all.length+b.length) c5)/\w4.cell? ⟨w1.heap.size,1,none⟩=some (.int .i64 f.kept)):=hid (by
   refine⟨D4.out.c0,?_,?_⟩
   ·subst hW4;exact css x50
   ·subst hW4;rw[cso (by simp)];exact X5.out)
  have hal:({ f with all:=f.all++b }:aJ).all.length=f.all.length+b.length:=List.length_append;have FI4:Hid (dQ w4 db mb tb (.agg #[.slice a5 (f.all.length+b.length) c5,.int .i64 f.kept]) { f with all:=f.all++b }):=hid (by
   refine⟨a5,c5,by rw[hal],?_,?_⟩
   ·rw[hal];subst hW4;exact⟨HB5.out.shape,Reads.sK HB5.out.rd _ (fun x e=>by rw[x50]at e;cases e),HB5.out.lt,HB5.out.small⟩
   ·rw[hal];rcases HO5.out with ⟨hb0,e5⟩|ho
    ·rw[e5];obtain⟨a',c',e,h1,h2⟩:=HFI.out;cases e;rcases h2 with h2|⟨g,hg,n1⟩
     ·exact .inl (by show f.all++b = [];rw[h2,hb0];rfl)
     ·exact .inr ⟨g,HOF.out.trans hg,n1⟩
    ·refine .inr ⟨_,ho,?_,?_,?_⟩
     ·have:=HM3.out db (.inl rfl);have:=B2.out.size;omega
     ·have:=HM3.out mb (.inr (.inl rfl));have:=B2.out.size;omega
     ·have:=HM3.out tb (.inr (.inr rfl));have:=B2.out.size;omega)
  obtain⟨vals,hmap,hfs⟩:=D4.out.fs;have MR:=hid hmap;have FS:=hid hfs;clear hW4 x50 f50 hmap hfs hcut;refine aU [0,1,3,7,0,0,63] 0 (fun w'=>w'.cell? ⟨db,0,none⟩=some (.map (some mb))/\w'.cell? ⟨w1.heap.size,0,none⟩=some (.slice a5 (f.all.length+b.length) c5)/\w'.cell? ⟨w1.heap.size,1,none⟩=some (.int .i64 f.kept)) (by kernel_rfl) ?_;refine aB [0,1,2,3,4,5] (by kernel_rfl) (L:=bm 7 63) (by kernel_rfl) (f':=1) rfl (fun _ _ _ _ h=>h) (fun w o h=>(((aR.cell _ _).and ((aR.cell _ _).and (aR.cell _ _))).alloc h o)) (.inr XR.out) ?_;simp only[sF,sL]
  iterate 6 (first|(refine aW _ (by rfl) (fun w' hs=>by obtain⟨y0,y1,y2⟩:=hs;go_simp;try with_reducible rfl) rfl ?_;simp only[Act.put,sA])|(refine aC _ (by rfl) (fun w'=>by go_simp;try with_reducible rfl) ?_;simp only[Act.put,sA]))
  refine aI ?_;refine aM 6 (by kernel_rfl) (L:=bm 7 127) (by kernel_rfl) ?_;simp only[sL];refine wpList_mapUpdate_in _ rfl _ _ _ 47 rfl 9 134 law Tryz.underlying47 gW mb _ _ rfl (by first|exact MR.out|exact World.ownsMap.drew MR.out) (by unfold maxLen;omega) _ _ _ rfl rfl HN.out (.held (.agg #[.slice a5 (f.all.length+b.length) c5,.int .i64 f.kept])) [] (kU _ _ _ _) ?_;intro w6 hown6 hturn6;have O6:=hid hown6;have T6:Hid (w4.drew.mapTurned w6 mb):=hid hturn6;clear hown6 hturn6;go_wp2_with fail;refine aH nofun ?_;refine bC (by kernel_rfl) ?_;have DR:Below w4.heap.size w4 w4.drew:=(Below.refl _ _).drew;have D6:Hid (aG w6 db mb tb { D with files:=bL { f with all:=f.all++b } D.files }):=hid (by
   have e5:=O6.out;have e7:f.name=n:=by rw[<- hG];exact aFy D n
   rw[<- e7]at e5;exact aG.put (f:={ f with all:=f.all++b }) (v:=.agg #[.slice a5 (f.all.length+b.length) c5,.int .i64 f.kept]) (D4.out.below DR) (fun g hg=>(FS.out g hg).below DR) e5 T6.out (FI4.out.below DR))
  have K6:Hid (Kept w w6 (aZ db mb tb)):=hid ((((((Kept.cE B2.out).trans (Kept.cE B3.out)).trans (Kept.cE B5.out)).andThen K4.out (fun k hk e=>by rcases e with e|e;exact e;omega)).trans (Kept.drew w4 _)).trans (Kept.jG T6.out));clear hal DR;go_wp2_with fail;refine(gO db mb tb _ _ D6.out HWA.out).mono ?_;rintro e w7 ⟨rfl,hd7,k7⟩;have D7:=hid hd7;have K7:=hid k7;clear hd7 k7;go_wp2_with fail;go_ret;exact⟨rfl,D7.out,K6.out.trans K7.out⟩
end Go.Proofs.YtjdglpcnkiioeaaGreat
namespace Go.Proofs.YtjdglpcnkiioeaaGreat
open Go.RowKit Go.Maps Go.Proofs.Own

def eK (n:Nat):List Nat:=if _h:n=0 then [] else eK (n / 256) ++ [n % 256]
termination_by n
decreasing_by omega
theorem mR:eK 0 = []:=by rw[eK];simp
theorem kI {n:Nat}(h:n≠0):eK n=eK (n / 256) ++ [n % 256]:=by rw[eK];simp[h]
def mZ (n:Nat):List Nat:=(eK n).length::eK n
theorem aEE (n:Nat):∀c ∈ eK n,c<256:=by
 induction n using Nat.strongRecOn with
 | _ n ih =>
  by_cases h:n=0
  ·subst h;rw[mR];simp
  ·rw[kI h];intro c hc;rcases List.mem_append.1 hc with hc|hc
   ·exact ih _ (by omega) c hc
   ·simp at hc;omega
theorem aGW (k:Nat):∀n,n<256 ^ k->(eK n).length<=k:=by
 induction k with
 | zero => intro n h; obtain rfl : n = 0 := by simpa using h
           rw[mR];exact Nat.le_refl _
 | succ k ih =>
  intro n h;by_cases h0:n=0
  ·subst h0;rw[mR];simp
  ·rw[kI h0,List.length_append];have:=ih (n / 256) (by rw[Nat.pow_succ]at h;omega);simp;omega
theorem wM {n : Nat} (h : (n : Int) < 18446744073709551616) : (eK n).length ≤ 8 := aGW 8 n (by have : (256 : Nat) ^ 8 = 18446744073709551616 := by decide
                                                                                               rw[this];exact Int.ofNat_lt.1 h)
theorem rW {n:Nat}(h:(n:Int)<18446744073709551616):∀c ∈ mZ n,c<256:=by
 intro c hc;have:=wM h;rcases List.mem_cons.1 hc with rfl|hc
 ·omega
 ·exact aEE n c hc
theorem jP {n:Nat}(h:(n:Int)<18446744073709551616):(mZ n).length<=9:=by
 have:=wM h;simp only[mZ,List.length_cons];omega

end Go.Proofs.YtjdglpcnkiioeaaGreat
namespace Go.Proofs.YtjdglpcnkiioeaaGreat
open Go.Lib (hid)
open Go.RowKit Go.Maps Go.Proofs.Own

structure fZ (w:World)(a:Nat)(v:Value)(l:List Nat):Prop where
 c:w.cell? ⟨a,0,none⟩=some v
 own:cC w (a+1) 5 .u8 v (ints l)
 fr:w.frozen? ⟨a,0,none⟩=false
structure jH (w w':World)(a:Nat)(v v':Value):Prop where
 kept:Kept w w' (fun k=>k=a\/v.ownBlock=some k)
 at':∀b,v'.ownBlock=some b->v.ownBlock=some b\/w.heap.size<=b
theorem jH.refl (w:World)(a:Nat)(v:Value):jH w w a v v:=⟨Kept.refl _ _,fun _ h=>.inl h⟩
theorem jH.trans {w u x:World}{a:Nat}{v v' v'':Value}(h:jH w u a v v')(k:jH u x a v' v''):jH w x a v v'':=by
 refine⟨h.kept.andThen k.kept fun b hb hs=>?_,fun b hb=>?_⟩
 ·rcases hs with hs|hs|hs
  ·exact hs
  ·exact .inl hs
  ·rcases h.at' b hs with h1|h1
   ·exact .inr h1
   ·omega
 ·rcases k.at' b hb with h1|h1
  ·exact h.at' b h1
  ·exact .inr (Nat.le_trans h.kept.size h1)
theorem fZ.lt {w:World}{a:Nat}{v:Value}{l:List Nat}(h:fZ w a v l):a<w.heap.size:=World.block_lt_of_cell? _ _ h.c
theorem fZ.below {w w':World}{a:Nat}{v:Value}{l:List Nat}(h:fZ w a v l)(hb:Below w.heap.size w w'):fZ w' a v l :=
 ⟨Below.at hb h.c h.lt,h.own.below hb,by rw[hb.frozen (p:=⟨a,0,none⟩) h.lt];exact h.fr⟩
theorem jH.below {w w':World}{a:Nat}{v v':Value}{l:List Nat}(h:jH w w' a v v')(hw:fZ w a v l):Below a w w' :=
 h.kept.below (Nat.le_of_lt hw.lt) fun k hk=>by
  rcases hk with rfl|hk
  ·exact Nat.le_refl _
  ·have:=(hw.own.lt k hk).1;omega
theorem jH.aL {w u x:World}{a:Nat}{v v':Value}{l:List Nat}(hb:Below w.heap.size w u)(h:jH u x a v v')(_hw:fZ w a v l):jH w x a v v' :=
 ⟨(Kept.aL hb (S:=fun k=>k=a\/v.ownBlock=some k) fun k h1 h2=>by omega).trans h.kept,fun b hb'=>(h.at' b hb').imp id fun e=>Nat.le_trans hb.size e⟩

theorem aIz {n:Nat}:∀j (h:j<(eK n).length),(eK n)[j]=n / 256 ^ ((eK n).length-1-j) % 256:=by
 induction n using Nat.strongRecOn with
 | _ n ih =>
  intro j hj;by_cases h0:n=0
  ·subst h0;simp[mR]at hj
  ·have hl:(eK n).length=(eK (n / 256)).length+1:=by rw[kI h0];simp
   by_cases h1:j<(eK (n / 256)).length
   ·have he:(eK n)[j]=(eK (n / 256))[j]:=by
     have:(eK n)[j]? = (eK (n / 256))[j]?:=by rw[kI h0,List.getElem?_append_left h1]
     rw[List.getElem?_eq_getElem hj,List.getElem?_eq_getElem h1]at this;exact Option.some.inj this
    rw[he,ih _ (by omega) j h1,hl,show (eK (n / 256)).length+1-1-j=((eK (n / 256)).length-1-j)+1 by omega,Nat.pow_succ,Nat.mul_comm,<- Nat.div_div_eq_div_mul]
   ·have hje:j=(eK (n / 256)).length:=by omega
    have he:(eK n)[j]=n % 256:=by
     have:(eK n)[j]? = some (n % 256):=by rw[kI h0,hje,List.getElem?_append_right (Nat.le_refl _)];simp
     rw[List.getElem?_eq_getElem hj]at this;exact Option.some.inj this
    rw[he,hl,hje];simp
theorem aKc (r:Nat):(2:Int) ^ (8*r)=((256 ^ r:Nat):Int):=by
 rw[show (256:Nat)=2 ^ 8 from rfl,<- Nat.pow_mul];simp
theorem fZ.put {w w1 w2:World}{a:Nat}{v v2:Value}{l l':List Nat}(h:fZ w a v l)(hb:Below w.heap.size w w1)(hg:w1.grownBy w2 v.ownBlock)(ho:cC w2 (a+1) 5 .u8 v2 (ints l'))(hat:v2.ownBlock=v.ownBlock\/v2.ownBlock=some w1.heap.size) :
  fZ (w2.setCell ⟨a,0,none⟩ v2) a v2 l'/\jH w (w2.setCell ⟨a,0,none⟩ v2) a v v2:=by
 have h1:=h.below hb;have K:=Kept.cJ hg;have hna:¬v.ownBlock=some a:=fun e=>by have:=(h.own.lt a e).1;omega
 have c2:=K.cell h1.c hna;have f2:w2.frozen? ⟨a,0,none⟩=false:=by rw[K.frozen (a:=⟨a,0,none⟩) h1.lt hna];exact h1.fr
 refine⟨⟨css c2,ho.aBi v2 (by simp),(World.frozen?_setCell _ _ _ _).trans f2⟩,⟨?_,fun b hb'=>?_⟩⟩
 ·refine(Kept.aL hb (S:=fun k=>k=a\/v.ownBlock=some k) fun k h1 h2=>by omega).trans ?_;exact K.andThen (Kept.setCell w2 ⟨a,0,none⟩ v2) fun k _ hk=>hk.elim .inr .inl
 ·rcases hat with e|e
  ·exact .inl (e ▸ hb')
  ·rw[e]at hb';obtain rfl:=Option.some.inj hb';exact .inr hb.size

theorem aDe (a:Nat)(v:Value)(l:List Nat)(n m:Nat)(w:World)(hw:fZ w a v l)(hn:(n:Int)<18446744073709551616)(hm:m<=128)(hl:l.length<=65536) :
  Calls Tryz.prog 208 #[.pointer (some ⟨a,0,none⟩),.int .u64 n,.int .u8 m] w fun e w'=>e = .returned (.tuple #[]) /\ ∃v',fZ w' a v' (l++((m+(eK n).length)::eK n))/\jH w w' a v v':=by
 have HL8:=hid (wM hn);have HW:=hid hw;have HN:=hid hn;have hlt:=hw.lt;clear hw;obtain⟨nz,hnz⟩:∃z:Int,z=(n:Int):=⟨_,rfl⟩;rw[<- hnz]at hn;have HNZ:=hid hnz;have hn0:(0:Int)<=nz:=by omega
 rw[show Value.int .u64 (n:Int)=Value.int .u64 nz by rw[hnz]];have HN0:=hid hn0;clear hnz hn hn0;go_enter Tryz.func208,Tryz.ntmps208;go_wp2_with fail
 go_loop [7,6] (fun x s=>∃(q k:Nat),(q:Int)<18446744073709551616/\x = .int .u64 q/\s = .int .i64 k/\(eK q).length+k=(eK n).length) (fun x _=>(intOf x).toNat)
 case atStart=>exact⟨n,0,HN.out,by rw[HNZ.out],rfl,rfl⟩
 case round =>
  obtain⟨q,k,hq,rfl,rfl,hd⟩:=hrel;have HD:=hid hd;have hk8:k<=8:=by have:=HL8.out;omega
  clear hd;by_cases h0:q=0
  ·subst h0;have HK:Hid (k=(eK n).length):=hid (by have:=HD.out;rw[mR]at this;simpa using this);clear hq;rw[show ((0:Nat):Int)=0 from rfl];have x0:=HW.out.c;have f0:=HW.out.fr;have hna:¬v.ownBlock=some a:=fun e=>by have:=(HW.out.own.lt a e).1;omega
   have HLN:Hid ((ints l).length+([(m:Int)+(k:Int)]:List Int).length<=4294967296):=hid (by rw[aS];simp only[List.length_cons,List.length_nil];omega)
   go_wp2_with (at_builtin;go_loud (refine bS Tryz.u8s _ _ rfl (a+1) v (.slice (some ⟨w.heap.size,0,none⟩) 1 1) (ints l) [(m:Int)+(k:Int)] rfl rfl (HW.out.own.alloc _) (Reads.one _ _ _ _) (by decide) HLN.out (by simp;exact Nat.le_of_lt hlt) rfl ?_;intro v2 w2 hown2 hgr2 hat2 hnil2 hbel2;obtain⟨a2,c2,rfl⟩:=hown2.shape;generalize (ints l ++ [(m:Int)+(k:Int)]).length=n2 at *;have HO2:=hid hown2;have B2:=hid hbel2;have G2:=hid hgr2;have A2:=hid hat2;have x2:=(Kept.cJ hgr2).cell (iH x0 _) hna;have f2:w2.frozen? ⟨a,0,none⟩=false:=(by rw[(Kept.cJ hgr2).frozen (a:=⟨a,0,none⟩) (by simp;exact Nat.lt_succ_of_lt hlt) hna,<- f0];exact((Below.refl w.heap.size w).alloc (Nat.le_refl _) _).frozen hlt);clear hown2 hgr2 hat2 hnil2 hbel2 x0 f0))
   clear x2 f2;generalize hW3:World.setCell w2 _ _=w3;have HI:Hid (ints l ++ [(m:Int)+(k:Int)]=ints (l ++ [m+k])):=hid (by simp[ints]);have HP:Hid (fZ w3 a (.slice a2 n2 c2) (l ++ [m+k])/\jH w w3 a v (.slice a2 n2 c2)):=hid (by
    subst hW3;exact HW.out.put ((Below.refl _ _).alloc (Nat.le_refl _) _) G2.out (l':=l ++ [m+k]) (HI.out ▸ HO2.out) A2.out)
   clear hW3 HO2 B2 G2 A2 HLN HD
   go_loopw [30] (fun i wr=>∃(j:Nat) (v3:Value),j<=k/\i = .int .i64 j/\fZ wr a v3 (l++((m+k)::(eK n).take j))/\jH w wr a v v3) (fun i _=>k-(intOf i).toNat)
   case atStart=>exact⟨0,_,Nat.zero_le _,rfl,by simpa using HP.out.1,HP.out.2⟩
   case round =>
    obtain⟨j,v3,hj,rfl,hw3,hg3⟩:=hrel;have HW3:=hid hw3;have HG3:=hid hg3;have hlt3:=hw3.lt;obtain⟨a3,c3,rfl⟩:=hw3.own.shape;clear hw3 hg3;by_cases hjk:j<k
    ·have hw1:IntKind.i64.wrap ((k:Int)-1)=(k:Int)-1:=by simp only[IntKind.wrap_i64];omega
     have hw2:IntKind.i64.wrap ((k:Int)-1-(j:Int))=(k:Int)-1-(j:Int):=by simp only[IntKind.wrap_i64];omega
     have hw4:IntKind.i64.wrap (8*((k:Int)-1-(j:Int)))=8*((k:Int)-1-(j:Int)):=by simp only[IntKind.wrap_i64];omega
     have hw5:decide (8*((k:Int)-1-(j:Int))<0)=false:=by simp;omega
     have X3:=hid HW3.out.c;have hjd:j<(eK n).length:=by have:=HK.out;omega
     have HBV:Hid (IntKind.u8.wrap (nz / 2 ^ (8*((k:Int)-1-(j:Int))).toNat)=((eK n)[j]:Nat)):=hid (by
      rw[aIz j hjd,HNZ.out,<- HK.out,show (8*((k:Int)-1-(j:Int))).toNat=8*(k-1-j) by omega,aKc,<- Int.natCast_ediv];simp only[IntKind.wrap_u8];rfl)
     have HTK:Hid ((eK n).take (j+1)=(eK n).take j ++ [(eK n)[j]]):=hid (by rw[List.take_add_one,List.getElem?_eq_getElem hjd];rfl);have hzl:(eK n)[j]<256:=aEE n _ (List.getElem_mem hjd);generalize (eK n)[j]=z at HBV HTK hzl;have hna3:¬(Value.slice a3 (ints (l++((m+k)::(eK n).take j))).length c3).ownBlock=some a:=fun e=>by have:=(HW3.out.own.lt a e).1;omega
     have HLN3:Hid ((ints (l++((m+k)::(eK n).take j))).length+([(z:Int)]:List Int).length<=4294967296):=hid (by rw[aS];simp only[List.length_cons,List.length_nil,List.length_append,List.length_take];omega);generalize hn3:(ints (l++((m+k)::(eK n).take j))).length=n3 at X3 hna3;rw[hn3]at HW3 HG3;go_wp2_with fail;refine aU [0,0,2,6,14,0,0,64,0,448,960,2016,4064,8160,16382,32767,65535,131071] 0 (fun w'=>w'.cell? ⟨a,0,none⟩=some (.slice a3 n3 c3)) (by kernel_rfl) ?_;refine aB [0,1,2,3,4,5,6,7,8,9,10,11,12] (by kernel_rfl) (L:=bm 18 8191) (by kernel_rfl) (f':=5) rfl (fun _ _ _ _ h=>h) (fun w o h=>(aR.cell _ _).alloc h o) (.inr X3.out) ?_;simp only[sF,sL]
     iterate 13 (first|(refine aW _ (by rfl) (fun w' hs=>by skip;go_simp;try with_reducible rfl) rfl ?_;simp only[Act.put,sA])|(refine aC _ (by rfl) (fun w'=>by go_simp;try with_reducible rfl) ?_;simp only[Act.put,sA]))
     refine aI ?_;refine aM 13 (by kernel_rfl) (L:=bm 18 16383) (by kernel_rfl) ?_;simp only[sL];rw[HBV.out];go_wp2_with fail;generalize hu5:World.alloc _ _=u5;have U5:Hid (Below wr.heap.size wr u5):=hid (by subst hu5;first|exact(Below.refl _ _).alloc (Nat.le_refl _) _|exact((Below.refl _ _).drew).alloc (Nat.le_refl _) _);have R5:Hid (Reads u5 .u8 (.slice (some ⟨wr.heap.size,0,none⟩) 1 1) [(z:Int)]):=hid (by subst hu5;exact Reads.one _ _ _ _);have L5:=U5.out.size;clear hu5;refine aH nofun ?_;refine aM 14 (by kernel_rfl) (L:=bm 18 32767) (by kernel_rfl) ?_;simp only[sL]
     go_loud (refine bS Tryz.u8s _ _ rfl (a+1) (.slice a3 n3 c3) (.slice (some ⟨wr.heap.size,0,none⟩) 1 1) _ [(z:Int)] rfl rfl (by first|exact HW3.out.own.below U5.out|exact(HW3.out.own.below U5.out).drew) (by first|exact R5.out|exact R5.out.drew) (by decide) HLN3.out (by simp;omega) rfl ?_;intro v6 w6 hown6 hgr6 hat6 hnil6 hbel6;obtain⟨a6,c6,rfl⟩:=hown6.shape;have O6:=hid hown6;have G6:=hid hgr6;have A6:=hid hat6;have x6:=(Kept.cJ hgr6).cell (Below.at U5.out HW3.out.c hlt3) hna3;have f6:w6.frozen? ⟨a,0,none⟩=false:=(by rw[(Kept.cJ hgr6).frozen (a:=⟨a,0,none⟩) (Nat.lt_of_lt_of_le hlt3 L5) hna3];exact(HW3.out.below U5.out).fr);clear hown6 hgr6 hat6 hnil6 hbel6;generalize (ints _ ++ [(z:Int)]).length=n6 at *;go_wp2_with fail)
     refine aH nofun ?_;refine aB [15,16] (by kernel_rfl) (L:=bm 18 131071) (by kernel_rfl) (f':=1) rfl (fun _ _ _ _ h=>h) (fun w o h=>(aR.cell _ _).alloc h o) (.inl (by kernel_rfl)) ?_;simp only[sF,sL]
     iterate 2 (refine aC _ (by rfl) (fun w'=>by go_simp;try with_reducible rfl) ?_;simp only[Act.put,sA])
     refine aI ?_;refine aM 17 (by kernel_rfl) (L:=bm 18 262143) (by kernel_rfl) ?_;simp only[sL];go_wp2_with fail;refine aH nofun ?_;refine bC (by kernel_rfl) ?_;generalize hW7:World.setCell w6 _ _=w7;have HI7:Hid (ints (l++((m+k)::(eK n).take j)) ++ [(z:Int)]=ints (l++((m+k)::(eK n).take (j+1)))):=hid (by rw[HTK.out];simp[ints]);have HP7:Hid (fZ w7 a (.slice a6 n6 c6) (l++((m+k)::(eK n).take (j+1)))/\jH wr w7 a (.slice a3 n3 c3) (.slice a6 n6 c6)):=hid (by
      subst hW7;exact HW3.out.put U5.out.drew G6.out (HI7.out ▸ O6.out) A6.out)
     clear hW7 x6 f6;go_wp2_with fail
     go_roundw
     case measure=>show k-((j:Int)+1).toNat<k-((j:Int)).toNat;omega
     case rel=>exact⟨j+1,_,by omega,by first|rfl|go_num,HP7.out.1,HG3.out.trans HP7.out.2⟩
    ·have hje:j=k:=by omega
     subst hje;go_wp2_with fail;refine bodyPost_end (v:=.tuple #[]) (by simp[results,Tryz.results208,go_sem]) rfl ?_;have HE:Hid ((m+j)::(eK n).take j=(m+(eK n).length)::eK n):=hid (by rw[HK.out,List.take_length]);rw[HE.out]at HW3 HG3;exact⟨rfl,_,HW3.out,HG3.out⟩
  ·have hq0:(0:Int)<(q:Int):=by omega
   have HDS:Hid ((eK q).length=(eK (q / 256)).length+1):=hid (by rw[kI h0];simp);clear h0;have HQ:Hid (((q / 256:Nat):Int)=(q:Int) / 256):=hid (by omega);have HQ1:=hid hq;generalize hz:(q:Int)=z at hq0 hq HQ ⊢;have HZ:=hid hz;clear hz;go_wp2_with fail
   go_round
   case rel =>
    exact⟨q / 256,k+1,Int.lt_of_le_of_lt (by omega) HQ1.out,by rw[HQ.out],by first|rfl|go_num,by have:=HD.out;have:=HDS.out;omega⟩
   all_goals (show (z / 256).toNat<z.toNat;omega)

def dW (ns:List Nat):List Nat:=ns.flatMap mZ
theorem aDP (ns:List Nat)(j:Nat)(h:j<ns.length):dW (ns.take (j+1))=dW (ns.take j)++mZ ns[j]:=by
 rw[List.take_add_one,List.getElem?_eq_getElem h];unfold dW;simp only[Option.toList_some,List.flatMap_append,List.flatMap_cons,List.flatMap_nil,List.append_nil]
theorem nA (ns:List Nat)(h:∀n ∈ ns,(n:Int)<18446744073709551616):(dW ns).length<=9*ns.length:=by
 induction ns with
 | nil=>simp[dW]
 | cons n ns ih =>
  have h1:=ih fun x hx=>h x (List.mem_cons_of_mem _ hx);have h2:=jP (h n (List.mem_cons_self ..));have e:dW (n::ns)=mZ n++dW ns:=by simp[dW]
  rw[e,List.length_append,List.length_cons];omega

theorem pJ (a:Nat)(v xv:Value)(l:List Nat)(ns:List Nat)(w:World)(hw:fZ w a v l)(hx:Reads w .u64 xv (ints ns))(hns:∀n ∈ ns,(n:Int)<18446744073709551616)(hno:∀b,xv.ownBlock=some b->b≠a/\v.ownBlock≠some b)(hl:l.length+9*ns.length<=65536) :
  Calls Tryz.prog 160 #[.pointer (some ⟨a,0,none⟩),xv] w fun e w'=>e = .returned (.tuple #[]) /\ ∃v',fZ w' a v' (l++dW ns)/\jH w w' a v v':=by
 have HW:=hid hw;have HX:=hid hx;have HNS:=hid hns;have HNO:=hid hno;obtain⟨ad,c,rfl,hc⟩:=hx;clear hw hns hno hc;rw[aS];rw[aS]at HX HNO;have hn63:(ns.length:Int)<=65536:=by omega
 go_enter Tryz.func160,Tryz.ntmps160;go_wp2_with fail
 go_loopw [10] (fun i wr=>∃(j:Nat) (v3:Value),j<=ns.length/\i = .int .i64 j/\fZ wr a v3 (l++dW (ns.take j))/\jH w wr a v v3) (fun i _=>ns.length-(intOf i).toNat)
 case atStart=>exact⟨0,v,Nat.zero_le _,rfl,by simpa [dW] using HW.out,jH.refl _ _ _⟩
 case round =>
  obtain⟨j,v3,hj,rfl,hw3,hg3⟩:=hrel;have HW3:=hid hw3;have HG3:=hid hg3;clear hw3 hg3;by_cases hjk:j<ns.length
  ·have RX:Hid (Reads wr .u64 (.slice ad ns.length c) (ints ns)):=hid (HX.out.kept HG3.out.kept fun b hb hs=>by
    rcases hs with hs|hs
    ·exact(HNO.out b hb).1 hs
    ·exact(HNO.out b hb).2 hs)
   have HCX:Hid (∃b o,ad=some ⟨b,o,none⟩/\wr.cell? ⟨b,o+j,none⟩=some (.int .u64 (ns[j]:Nat))):=hid (by
    obtain⟨_,_,e,h⟩:=RX.out;obtain⟨b,o,h1,h2⟩:=h j (by rw[aS];exact hjk);injection e with e1 e2 e3
    subst e1;exact⟨b,o,h1,by rw[h2,ints_at]⟩)
   obtain⟨b,o,rfl,hcell⟩:=HCX.out;clear HCX;have HTK:=hid (aDP ns j hjk);have HNL:Hid (((ns[j]:Nat):Int)<18446744073709551616):=hid (HNS.out _ (List.getElem_mem hjk));generalize ns[j]=n at hcell HTK HNL;have HLL:Hid ((l++dW (ns.take j)).length<=65536):=hid (by
    have:=nA (ns.take j) fun x hx=>HNS.out x (List.mem_of_mem_take hx);rw[List.length_take]at this;rw[List.length_append];omega)
   go_wp2_with fail;refine(aDe a v3 _ n 0 wr HW3.out HNL.out (by decide) HLL.out).mono ?_;rintro e w4 ⟨rfl,v4,hw4,hg4⟩;have HW4:=hid hw4;have HG4:=hid hg4;clear hw4 hg4 hcell;go_wp2_with fail
   go_roundw
   case rel=>exact⟨j+1,v4,by omega,by first|rfl|go_num,by rw[HTK.out,<- List.append_assoc];have h:=HW4.out;rw[Nat.zero_add]at h;exact h,HG3.out.trans HG4.out⟩
   all_goals (show ns.length-((j:Int)+1).toNat<ns.length-((j:Int)).toNat;omega)
  ·have hje:j=ns.length:=by omega
   subst hje;go_wp2_with fail;refine bodyPost_end (v:=.tuple #[]) (by simp[results,Tryz.results160,go_sem]) rfl ?_;rw[List.take_length]at HW3;exact⟨rfl,_,HW3.out,HG3.out⟩

theorem aIe (a:Nat)(v xv:Value)(l b:List Nat)(w:World)(hw:fZ w a v l)(hB:Bytes w xv b)(hl:l.length+b.length<=65536) :
  Calls Tryz.prog 242 #[.pointer (some ⟨a,0,none⟩),xv] w fun e w'=>e = .returned (.tuple #[]) /\ ∃v',fZ w' a v' (l++b)/\jH w w' a v v':=by
 have HW:=hid hw;have HB:=hid hB;have hlt:=hw.lt;obtain⟨ba,bc,rfl,_⟩:=hB.shape;have hna:¬v.ownBlock=some a:=fun e=>by have:=(hw.own.lt a e).1;omega
 have x0:=hw.c;have f0:=hw.fr;clear hw hB;have HLN:Hid ((ints l).length+(ints b).length<=4294967296):=hid (by rw[aS,aS];omega);have HI:Hid (ints l++ints b=ints (l++b)):=hid (by simp[ints]);go_enter Tryz.func242,Tryz.ntmps242
 go_wp2_with (at_builtin;go_loud (refine bS Tryz.u8s _ _ rfl (a+1) v (.slice ba b.length bc) (ints l) (ints b) rfl rfl HW.out.own HB.out.rd (by decide) HLN.out (by omega) rfl ?_;intro v2 w2 hown2 hgr2 hat2 hnil2 hbel2;obtain⟨a2,c2,rfl⟩:=hown2.shape;generalize (ints l++ints b).length=n2 at *;have HO2:=hid hown2;have G2:=hid hgr2;have A2:=hid hat2;have x2:=(Kept.cJ hgr2).cell x0 hna;have f2:w2.frozen? ⟨a,0,none⟩=false:=(by rw[(Kept.cJ hgr2).frozen (a:=⟨a,0,none⟩) hlt hna];exact f0);clear hown2 hgr2 hat2 hnil2 hbel2 x0 f0))
 refine bodyPost_end (v:=.tuple #[]) (by simp[results,Tryz.results242,go_sem]) rfl ?_;exact⟨rfl,_,HW.out.put (Below.refl _ _) G2.out (HI.out ▸ HO2.out) A2.out⟩

theorem rH (a:Nat)(v:Value)(l:List Nat)(w:World)(hw:fZ w a v l)(hl:l.length<=65536)(hb:∀c ∈ l,c<256) :
  Calls Tryz.prog 162 #[.pointer (some ⟨a,0,none⟩)] w fun e w'=>∃v',e = .returned v'/\Bytes w' v' l/\Below w.heap.size w w':=by
 have HW:=hid hw;have HB:=hid hb;have x0:=hw.c;clear hw hb;have HL:Hid ((ints l).length<=2097152):=hid (by rw[aS];omega);go_enter Tryz.func162,Tryz.ntmps162;go_wp2_with fail;refine(nJ _ _ _ HW.out.own.reads HL.out).mono ?_;rintro e w1 ⟨v1,rfl,hown,hb1⟩;have HO:=hid hown;have B1:=hid hb1;clear hown hb1;go_wp2_with fail;go_ret;exact⟨v1,rfl,Bytes.dL HO.out HB.out (by omega),B1.out⟩

theorem aAZ (a:Nat)(v:Value)(l:List Nat)(s:ByteArray)(w:World)(hw:fZ w a v l)(hl:l.length+9+s.size<=65536) :
  Calls Tryz.prog 207 #[.pointer (some ⟨a,0,none⟩),.string s] w fun e w'=>e = .returned (.tuple #[]) /\ ∃v',fZ w' a v' (l++(mZ s.size++aP s))/\jH w w' a v v':=by
 have HW:=hid hw;have hlt:=hw.lt;have HLL:=hid hl;have hs:(s.size:Int)<=65536:=by omega
 clear hw hl;go_enter Tryz.func207,Tryz.ntmps207;go_wp2_with fail;have W1:=hid (HW.out.below ((Below.refl _ _).alloc (Nat.le_refl _) (.cells #[.int .u64 (s.size:Int)] 22)));have B1:Hid (Below w.heap.size w (w.alloc (.cells #[.int .u64 (s.size:Int)] 22))):=hid ((Below.refl _ _).alloc (Nat.le_refl _) _);refine(pJ a v _ l [s.size] _ W1.out (Reads.one _ _ _ _) (by simp;omega) (fun b hb=>by
  simp only[Value.ownBlock]at hb;obtain rfl:=Option.some.inj hb;exact⟨by omega,fun e=>by have:=(HW.out.own.lt _ e).2;omega⟩) (by have:=HLL.out;simp only[List.length_cons,List.length_nil];omega)).mono ?_
 rintro e w2 ⟨rfl,v2,hw2,hg2⟩;have W2:Hid (fZ w2 a v2 (l++mZ s.size)):=hid (by simpa [dW] using hw2);have G2:Hid (jH w w2 a v v2):=hid (jH.aL B1.out hg2 HW.out);clear hw2 hg2 W1 B1;have TS:Hid (s.size<=2097152):=hid (by have:=HLL.out;omega)
 go_wp2_with (refine eA rfl 9 36 5 _ rfl Tryz.underlying9 Tryz.underlying36 Tryz.underlying5 _ rfl TS.out ?_;intro dv w3 hB3 hb3 hob3;have HB3:=hid hB3;have B3:=hid hb3;clear hB3 hb3 hob3)
 refine(aIe a v2 dv _ _ w3 (W2.out.below B3.out) HB3.out (by have:=HLL.out;have h9:=jP (n:=s.size) (by omega);rw[List.length_append,cV];omega)).mono ?_;rintro e w4 ⟨rfl,v4,hw4,hg4⟩;have W4:=hid hw4;have G4:Hid (jH w w4 a v v4):=hid (G2.out.trans (jH.aL B3.out hg4 W2.out));clear hw4 hg4;go_wp2_with fail;refine bodyPost_end (v:=.tuple #[]) (by simp[results,Tryz.results207,go_sem]) rfl ?_;exact⟨rfl,_,by rw[<- List.append_assoc];exact W4.out,G4.out⟩

def iN (s:bM):List Nat:=dW [s.i.toNat,s.t.toNat,s.ms.length]++dW (s.ms.map Int.toNat)++(mZ s.d.length++s.d)
theorem xO (ns:List Nat)(h:∀n ∈ ns,(n:Int)<18446744073709551616):∀c ∈ dW ns,c<256:=by
 intro c hc;obtain⟨n,h1,h2⟩:=List.mem_flatMap.1 hc;exact rW (h n h1) c h2
theorem bR.box (w:World)(i t:Int)(mv dv:Value):bR (w.alloc (.cells #[.int .u64 i,.int .u64 t,mv,dv] 75)) w.heap.size i t mv dv :=
 ⟨by go_cell,by go_cell,by go_cell,by go_cell,by simp,by simp,by simp,by simp⟩
theorem fZ.new (w:World):fZ (w.alloc (.cells #[.slice none 0 0] 246)) w.heap.size (.slice none 0 0) [] :=
 ⟨by go_cell,cC.nil _ _ _ _,by simp⟩
theorem Reads.three (w:World)(q:IntKind)(x y z:Int)(t:TypeId):Reads (w.alloc (.cells #[.int q x,.int q y,.int q z] t)) q (.slice (some ⟨w.heap.size,0,none⟩) 3 3) [x,y,z] :=
 (cC.lit (zs:=[x,y,z]) (base:=0) (heap_alloc_new _ _) (Nat.zero_le _) (by simp)).reads

theorem aEK {n k:Nat}(hn:(n:Int)<18446744073709551616)(hk:(k:Int)<18446744073709551616)(ms:List Int)(h:ms.length<=7):∀x ∈ [n,k,ms.length],(x:Int)<18446744073709551616:=by
 intro x hx;simp only[List.mem_cons,List.not_mem_nil,or_false]at hx;rcases hx with rfl|rfl|rfl
 ·exact hn
 ·exact hk
 ·omega
theorem aAo {n k:Nat}(hn:(n:Int)<18446744073709551616)(hk:(k:Int)<18446744073709551616)(ms:List Int)(h:ms.length<=7):(dW [n,k,ms.length]).length<=27 :=
 nA [n,k,ms.length] (aEK hn hk ms h)
theorem aER {ms:List Int}(h:aCr ms)(j:Nat):∀x ∈ (ms.take j).map Int.toNat,(x:Int)<18446744073709551616:=by
 intro x hx;obtain⟨y,hy,rfl⟩:=List.mem_map.1 hx;obtain⟨q,hq,rfl⟩:=List.mem_iff_getElem.1 hy;rw[List.length_take]at hq;have:=(h.2.2 q (by omega)).2;rw[rS (by omega)]at this;rw[List.getElem_take];omega
theorem aAA {ms:List Int}(h:aCr ms)(j:Nat):(dW ((ms.take j).map Int.toNat)).length<=63:=by
 have h2:=nA _ (aER h j);have:=h.2.1;rw[List.length_map,List.length_take]at h2;omega

theorem aGe (v:Value)(s:bM)(w:World)(h:cL w v s)(hok:¬s.ok) :
  Calls Tryz.prog 174 #[v] w fun e w'=>e = .returned (.tuple #[.slice none 0 0,.int .i64 2])/\Below w.heap.size w w':=by
 have H:=hid h;have HOK:Hid (s.okB=false):=hid (decide_eq_false hok);obtain⟨mv,dv,rfl,hm,hd⟩:=h;obtain⟨a,c,rfl,_⟩:=hd.shape;obtain⟨am,cm,rfl,_⟩:=hm.shape;clear hm hd hok;go_enter Tryz.func174,Tryz.ntmps174;go_wp2_with fail;refine(tX _ s _ (H.out.below ((Below.refl _ _).alloc (Nat.le_refl _) _))).mono ?_;rintro e w1 ⟨rfl,hb1⟩;rw[HOK.out];have B1:Hid (Below w.heap.size w w1):=hid (((Below.refl _ _).alloc (Nat.le_refl _) _).trans (hb1.mono (by simp)));clear hb1;go_wp2_with fail
 go_ret2
 exact⟨rfl,B1.out⟩

theorem yI (v:Value)(s:bM)(w:World)(h:cL w v s)(hok:s.ok) :
  Calls Tryz.prog 174 #[v] w fun e w'=>∃v',e = .returned (.tuple #[v',.int .i64 0])/\Bytes w' v' (frP 4 (iN s))/\Below w.heap.size w w' /\ ∀g,v'.ownBlock=some g->w.heap.size<=g:=by
 have H:=hid h;have HOK:Hid (s.okB=true):=hid (decide_eq_true hok);have HOO:=hid hok;obtain⟨mv,dv,rfl,hm,hd⟩:=h;obtain⟨a,c,rfl,_⟩:=hd.shape;obtain⟨am,cm,rfl,_⟩:=hm.shape;obtain⟨i,t,ms,d⟩:=s;have HM:=hid hm;have HD:=hid hd;obtain⟨n,hn⟩:∃n:Nat,i=n:=⟨i.toNat,by have:=hok.1;simp only at this;omega⟩;obtain⟨k,hk⟩:∃n:Nat,t=n:=⟨t.toNat,by have:=hok.2.2.1;simp only at this;omega⟩;obtain⟨_,hi2,_,ht2,hmo,hdl⟩:=hok;simp only at hi2 ht2 hmo hdl;have HI:Hid ((n:Int)<18446744073709551616):=hid (by rw[<- hn];exact Int.lt_trans hi2 (by decide));have HT:Hid ((k:Int)<18446744073709551616):=hid (by rw[<- hk];exact Int.lt_of_le_of_lt ht2 (by decide));have HMO:=hid hmo;have hml:ms.length<=7:=hmo.2.1;have hdl':(d.length:Int)<=32768:=by omega
 have HN:=hid hn;have HK:=hid hk;clear hm hd hi2 ht2 hmo hn hk
 subst_vars
 go_enter Tryz.func174,Tryz.ntmps174;go_wp2_with fail;refine(tX _ _ _ (H.out.below ((Below.refl _ _).alloc (Nat.le_refl _) _))).mono ?_;rintro e w1 ⟨rfl,hb1⟩;rw[HOK.out];have SB:Hid (bR w1 w.heap.size n k (.slice am ms.length cm) (.slice a d.length c)):=hid ((bR.box w n k _ _).below hb1);have B1:Hid (Below w.heap.size w w1):=hid (((Below.refl _ _).alloc (Nat.le_refl _) _).trans (hb1.mono (by simp)));have hlw:=SB.out.lt;clear hb1;obtain⟨r0,r1,r2,r3,_,_,_,_⟩:=SB.out;go_wp2_with fail;have HWN:Hid (∀o:Obj,fZ ((w1.alloc (.cells #[.slice none 0 0] 246)).alloc o) w1.heap.size (.slice none 0 0) []):=hid fun o =>
  (fZ.new w1).below ((Below.refl _ _).alloc (Nat.le_refl _) o)
 have HX3:Hid (∀x y z:Int,Reads ((w1.alloc (.cells #[.slice none 0 0] 246)).alloc (.cells #[.int .u64 x,.int .u64 y,.int .u64 z] 22)) .u64 (.slice (some ⟨w1.heap.size+1,0,none⟩) 3 3) [x,y,z]):=hid fun x y z=>by
  have h:=Reads.three (w1.alloc (.cells #[.slice none 0 0] 246)) .u64 x y z 22
  simpa using h
 refine(pJ w1.heap.size _ _ [] [n,k,ms.length] _ (HWN.out _) (HX3.out _ _ _) (by
  intro x hx;simp only[List.mem_cons,List.not_mem_nil,or_false]at hx;rcases hx with rfl|rfl|rfl
  ·exact HI.out
  ·exact HT.out
  ·omega) (by
  intro b hb;simp only[Value.ownBlock]at hb;obtain rfl:=Option.some.inj hb;exact⟨by omega,by simp[Value.ownBlock]⟩) (by simp)).mono ?_
 rintro e w2 ⟨rfl,v2,hw2,hg2⟩;generalize hA:w1.heap.size=A at *
 have hBA:Below A w1 w2:=by
  have h:=hg2.below (HWN.out _);subst hA;exact(((Below.refl _ _).alloc (Nat.le_refl _) _).alloc (by simp) _).trans h
 have B2:=hid hBA;have W2:Hid (fZ w2 A v2 (dW [n,k,ms.length])):=hid (by simpa using hw2);clear hw2 hg2 HWN HX3 hBA;have hr2:w2.cell? ⟨w.heap.size,2,none⟩=some (.slice am ms.length cm):=Below.at B2.out r2 hlw;clear r0 r1 r2 r3;go_wp2_with fail
 go_loopw [23] (fun x wr=>∃(j:Nat) (v3:Value),j<=ms.length/\x = .int .i64 j/\fZ wr A v3 (dW [n,k,ms.length]++dW ((ms.take j).map Int.toNat))/\Below A w1 wr) (fun x _=>ms.length-(intOf x).toNat)
 case atStart=>exact⟨0,v2,Nat.zero_le _,rfl,by simpa [dW] using W2.out,B2.out⟩
 case round =>
  obtain⟨j,v3,hj,rfl,hw3,hb3⟩:=hrel;have W3:=hid hw3;have B3:=hid hb3;have hsz3:=hb3.size;clear hw3 hb3 hr2;by_cases hjk:j<ms.length
  ·have BW:Hid (Below w.heap.size w wr):=hid (B1.out.trans (B3.out.mono (Nat.le_of_lt hlw)));have HCX:Hid (∃b o,am=some ⟨b,o,none⟩/\wr.cell? ⟨b,o+j,none⟩=some (.int .i64 ms[j])):=hid ((HM.out.below BW.out).cells.2.2 j hjk);obtain⟨b,o,rfl,hcell⟩:=HCX.out;clear HCX;have hz0:0<=ms[j]:=by have:=tP HMO.out.2.2 j hjk;rwa [rS hjk]at this
   have hz7:ms[j]<7:=by have:=(HMO.out.2.2 j hjk).2;rwa [rS hjk]at this
   have HTK:Hid (dW ((ms.take (j+1)).map Int.toNat)=dW ((ms.take j).map Int.toNat)++dW [ms[j].toNat]):=hid (by
    rw[List.take_add_one,List.getElem?_eq_getElem hjk];unfold dW;simp only[Option.toList_some,List.map_append,List.flatMap_append,List.map_cons,List.map_nil])
   generalize ms[j]=z at hcell hz0 hz7 HTK;have HLL:Hid ((dW [n,k,ms.length]++dW ((ms.take j).map Int.toNat)).length<=200):=hid (by
    have h1:=aAo HI.out HT.out ms hml;have h2:=aAA HMO.out j;rw[List.length_append];omega)
   go_wp2_with fail;have HAL:Hid (Below wr.heap.size wr (wr.alloc (.cells #[.int .u64 z] 22))):=hid ((Below.refl _ _).alloc (Nat.le_refl _) _);have hzi:ints [z.toNat] = [z]:=by simp[ints];omega
   have hlA:=W3.out.lt;refine(pJ A v3 _ _ [z.toNat] _ (W3.out.below HAL.out) (by rw[hzi];exact Reads.one _ _ _ _) (by simp;omega) (fun b hb=>by
    simp only[Value.ownBlock]at hb;obtain rfl:=Option.some.inj hb;exact⟨by omega,fun e=>by have:=(W3.out.own.lt _ e).2;omega⟩) (by have:=HLL.out;simp only[List.length_cons,List.length_nil];omega)).mono ?_
   rintro e w4 ⟨rfl,v4,hw4,hg4⟩;have W4:=hid hw4;have B4:Hid (Below A w1 w4):=hid (B3.out.trans ((jH.aL HAL.out hg4 W3.out).below W3.out));clear hw4 hg4 hcell hzi;go_wp2_with fail
   go_roundw
   case rel=>exact⟨j+1,v4,by omega,by first|rfl|go_num,by rw[HTK.out,<- List.append_assoc];exact W4.out,B4.out⟩
   all_goals (show ms.length-((j:Int)+1).toNat<ms.length-((j:Int)).toNat;omega)
  ·have hje:j=ms.length:=by omega
   subst hje;rw[List.take_length]at W3;have BW:Hid (Below w.heap.size w wr):=hid (B1.out.trans (B3.out.mono (Nat.le_of_lt hlw)));have HBD:Hid (Bytes wr (.slice a d.length c) d):=hid (HD.out.below BW.out);have r3:wr.cell? ⟨w.heap.size,3,none⟩=some (.slice a d.length c):=Below.at B3.out SB.out.c3 hlw
   go_wp2_with (refine iC rfl 36 9 5 _ rfl Tryz.underlying36 Tryz.underlying5 Tryz.underlying9 _ _ rfl HBD.out ?_)
   have hzS:(bX d).size=d.length:=cH d;have HNS:Hid (aP (bX d)=d):=hid (dO HD.out.lt);have HLH:=hid (aAo HI.out HT.out ms hml);have HLM:Hid ((dW (ms.map Int.toNat)).length<=63):=hid (by have:=aAA HMO.out ms.length;rwa [List.take_length]at this);refine(aAZ A v3 _ (bX d) wr W3.out (by have:=HLH.out;have:=HLM.out;rw[hzS,List.length_append];omega)).mono ?_;rintro e w4 ⟨rfl,v4,hw4,hg4⟩;rw[HNS.out,hzS]at hw4;have HSW:Hid (dW [n,k,ms.length]++dW (ms.map Int.toNat)++(mZ d.length++d)=iN ⟨n,k,ms,d⟩):=hid rfl;rw[HSW.out]at hw4;have W4:=hid hw4;have B4:Hid (Below A w1 w4):=hid (B3.out.trans (hg4.below W3.out));clear hw4 hg4 r3;have HLW:Hid ((iN ⟨n,k,ms,d⟩).length<=65536):=hid (by
    have:=HLH.out;have:=HLM.out;have:=jP (n:=d.length) (by omega);rw[<- HSW.out,List.length_append,List.length_append,List.length_append];omega)
   have HWL:Hid (∀c ∈ iN ⟨n,k,ms,d⟩,c<256):=hid (by
    rw[<- HSW.out];intro c hc;rcases List.mem_append.1 hc with hc|hc
    ·rcases List.mem_append.1 hc with hc|hc
     ·exact xO _ (aEK HI.out HT.out ms hml) c hc
     ·exact xO _ (by have:=aER HMO.out ms.length;rwa [List.take_length]at this) c hc
    ·rcases List.mem_append.1 hc with hc|hc
     ·exact rW (n:=d.length) (by omega) c hc
     ·exact HD.out.lt c hc)
   generalize hL:iN ⟨n,k,ms,d⟩=L at W4 HLW HWL;go_wp2_with fail;refine(rH A v4 L w4 W4.out HLW.out HWL.out).mono ?_;rintro e w5 ⟨v5,rfl,hB5,hb5⟩;have HB5:=hid hB5;have B5:Hid (Below A w1 w5):=hid (B4.out.trans (hb5.mono (Nat.le_of_lt W4.out.lt)));clear hB5 hb5;go_wp2_with fail;refine(aDf 4 v5 L w5 HB5.out (by decide) (by decide) HLW.out).mono ?_;rintro e w6 ⟨v6,rfl,hB6,hb6,ho6⟩;have HO6:Hid (∀g,v6.ownBlock=some g->w.heap.size<=g):=hid fun g hg=>by have:=ho6 g hg;have:=B1.out.size;have:=B5.out.size;omega
   have HB6:=hid hB6;have B6:Hid (Below w.heap.size w w6):=hid (B1.out.trans ((B5.out.mono (Nat.le_of_lt hlw)).trans (hb6.mono (by have:=B1.out.size;have:=B5.out.size;omega))));clear hB6 hb6 ho6;go_wp2_with fail
   go_ret2
   exact⟨v6,rfl,by rw[hL];exact HB6.out,B6.out,HO6.out⟩
