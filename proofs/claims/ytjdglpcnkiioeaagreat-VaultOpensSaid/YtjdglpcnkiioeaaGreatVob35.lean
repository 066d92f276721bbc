/- For vltopens_law_holds. -/
import Derived.Laws.Externs
import Derived.Test.YtjdglpcnkiioeaaGreatVob34
set_option maxHeartbeats 16000000
set_option maxRecDepth 100000
namespace Go.Proofs.YtjdglpcnkiioeaaGreat
open Go.Lib (hid)
open Go.RowKit Go.Maps Go.Proofs.Own

theorem aKN (s:ByteArray)(c:Int)(w:World):Calls Tryz.prog 210 #[.string s,.int .u8 c] w fun e w'=>e = .returned (.int .i64 (Lib.indexByte s.data.toList c.toNat.toUInt8))/\w=w':=by
 go_enter Tryz.func210,Tryz.ntmps210;go_wp2_with fail;rw[run_callFunc_extern Tryz.func244 (by kernel_rfl) (by kernel_rfl) (by kernel_rfl) (e:=Extern.BytealgIndexByte.indexByte) (by kernel_rfl),Lib.run_indexByteString];simp only[Result.andThen];rw[Oper.upon_value];go_wp2_with fail;go_ret;exact⟨rfl,rfl⟩
theorem aLe (c:Nat)(w:World)(hc:c<256):Calls Tryz.prog 164 #[.string ⟨#[48,49,50,51,52,53,54,55,56,57,97,98,99,100,101,102]⟩,.int .u8 c] w fun e w'=>e = .returned (.int .i64 (aCf c))/\w=w':=by
 have H:Hid (Lib.indexByte [48,49,50,51,52,53,54,55,56,57,97,98,99,100,101,102] (c:Int).toNat.toUInt8=aCf c):=hid (by rw[Int.toNat_natCast];exact aJ4 c hc);clear hc;go_enter Tryz.func164,Tryz.ntmps164;go_wp2_with fail;refine(aKN _ _ _).mono ?_;rintro e w1 ⟨rfl,rfl⟩;rw[H.out];go_wp2_with fail;go_ret;exact⟨rfl,rfl⟩

theorem aFz (s:ByteArray)(w:World)(h:¬(s.size=16/\(aP s).getD 0 0=76)) :
  Calls Tryz.prog 124 #[.string s] w fun e w'=>e = .returned (.tuple #[.int .u64 0,.bool false])/\w=w':=by
 by_cases h1:s.size=16
 ·have h0:((s.size:Int) != 16)=false:=by rw[h1];rfl
  obtain⟨c,hc⟩:∃c:Nat,(aP s).getD 0 0=c:=⟨_,rfl⟩;have hidx:∀w',(Instr.index 9 (.string s) (.int .i64 0)).run Tryz.prog w' = .ok (.int .u8 (c:Int)) w':=fun w'=>by
   rw[run_index_string w' 9 s .i64 0 Tryz.underlying9,dif_pos (by omega),<- hc];unfold aP;obtain⟨⟨l⟩⟩:=s;cases l with
   | nil=>simp[ByteArray.size]at h1
   | cons x r=>rfl
  have hne:((c:Int) != 76)=true:=by have:c≠76:=fun e=>h ⟨h1,hc.trans e⟩;simp;omega
  clear h h1 hc;go_enter Tryz.func124,Tryz.ntmps124;go_wp2_with fail
  go_ret2
  exact⟨rfl,rfl⟩
 ·have h0:((s.size:Int) != 16)=true:=by simp;omega
  clear h h1;go_enter Tryz.func124,Tryz.ntmps124;go_wp2_with fail
  go_ret2
  exact⟨rfl,rfl⟩

theorem gfirst_yes (s:ByteArray)(w:World)(h1:s.size=16)(h2:(aP s).getD 0 0=76) :
  Calls Tryz.prog 124 #[.string s] w fun e w'=>e = .returned (.tuple #[.int .u64 (bB (aP s)),.bool (decide (bB (aP s)≠0))])/\Below w.heap.size w w':=by
 have HF:Hid (bB (aP s)=(hexF (aP s).tail 0).getD 0):=hid (by
  unfold bB;rw[if_pos ⟨by rw[cV];exact h1,h2⟩])
 have h0:((s.size:Int) != 16)=false:=by rw[h1];rfl
 have hidx:∀w',(Instr.index 9 (.string s) (.int .i64 0)).run Tryz.prog w' = .ok (.int .u8 76) w':=fun w'=>by
  rw[run_index_string w' 9 s .i64 0 Tryz.underlying9,dif_pos (by omega)];unfold aP at h2;obtain⟨⟨l⟩⟩:=s;cases l with
  | nil=>simp[ByteArray.size]at h1
  | cons x r =>
   have h3:x.toNat=76:=h2;have h4:((ByteArray.mk ⟨x::r⟩)[(0:Int).toNat]'(by simp[ByteArray.size]))=x:=rfl;rw[h4,h3];rfl
 obtain⟨s1,hs1,hn1,hz1⟩:∃s1,s.extract 1 s.size=s1/\aP s1=(aP s).tail/\s1.size=15:=by
  refine⟨_,rfl,?_,?_⟩
  ·unfold aP;rw[Lib.extract_data];rw[List.map_take,List.map_drop];rw[show s.size-1=((s.data.toList.map UInt8.toNat).drop 1).length by rw[List.length_drop,List.length_map];rfl,List.take_length,List.drop_one]
  ·rw[ByteArray.size_extract];omega
 have hsl:∀w',(Instr.slice 9 (.string s) (some (.int .i64 1)) none none).run Tryz.prog w' = .ok (.string s1) w':=fun w'=>by
  rw[run_slice_string_l w' 9 s Tryz.underlying9 .i64 1 (by omega) (by omega),<- hs1];rfl
 obtain⟨v1,w1,hrun,hB1,hb1,ho1⟩:=mJ (P:=Tryz.prog) w 9 36 5 s1 Tryz.underlying9 Tryz.underlying36 Tryz.underlying5 (by omega);rw[hn1]at hB1;have hlen:(aP s).tail.length=15:=by rw[List.length_tail,cV,h1]
 have HLT:Hid (∀c ∈ (aP s).tail,c<256):=hid fun c hc=>aAD s c (List.mem_of_mem_tail hc);rw[HF.out];generalize (aP s).tail=l at hB1 hlen HLT HF ⊢;obtain⟨a,c,rfl,_⟩:=hB1.shape;rw[hlen]at hrun hB1;have HB1:=hid hB1;have B1:=hid hb1;have HLN:=hid hlen;clear hs1 hn1 hz1 hB1 hb1 ho1 h1 h2 hlen HF;go_enter Tryz.func124,Tryz.ntmps124;go_wp2_with fail
 go_loopw [2,19] (fun x y wr=>∃(k n:Nat),k<=15/\y = .int .i64 k/\x = .int .u64 n/\hexF (l.take k) 0=some n/\Below w1.heap.size w1 wr) (fun _ y _=>15-(intOf y).toNat)
 case atStart=>exact⟨0,0,by omega,rfl,rfl,rfl,Below.refl _ _⟩
 case round =>
  obtain⟨k,n,hk,rfl,rfl,hx,hb⟩:=hrel;have HX:=hid hx;have BW:=hid hb;have HN:Hid (n<16 ^ k):=hid (by
   have h3:=vQ hx;rw[List.length_take,HLN.out,Nat.min_eq_left hk]at h3;omega)
  clear hx hb;by_cases hlt:k<15
  ·have hkl:k<l.length:=by rw[HLN.out];exact hlt
   obtain⟨b,o,e,hcell⟩:=HB1.out.cells.2.2 k hkl;cases e;have hcell2:=Below.at BW.out hcell (World.block_lt_of_cell? _ _ hcell);have HX2:Hid (hexF (l.take (k+1)) 0=match jX l[k] with|none=>none|some d=>some (n*16+d)):=hid (aAr HX.out hkl);obtain⟨ch,hch⟩:∃ch:Nat,l[k]=ch:=⟨_,rfl⟩;have hc256:ch<256:=by rw[<- hch];exact HLT.out _ (List.getElem_mem hkl)
   rw[hch]at hcell2 HX2;have k0:(0:Int)<=(k:Int):=by omega
   have k1:(k:Int)<15:=by omega
   clear hcell hch hkl;go_wp2_with fail;refine(aLe ch _ hc256).mono ?_;rintro e w2 ⟨rfl,rfl⟩;cases hd:jX ch with
   | none =>
    have hi:aCf ch = -1:=by unfold aCf;rw[hd]
    have HN0:Hid ((hexF l 0).getD 0=0):=hid (by
     have h3:=HX2.out;rw[hd]at h3;rw[aAq h3];rfl)
    rw[hi];clear hd;go_wp2_with fail
    go_ret2
    rw[HN0.out];exact⟨rfl,B1.out.trans (BW.out.mono B1.out.size)⟩
   | some d =>
    have hd16:=aEL hd;have hi:aCf ch=(d:Int):=by unfold aCf;rw[hd]
    have HX3:Hid (hexF (l.take (k+1)) 0=some (n*16+d)):=hid (by have h3:=HX2.out;rw[hd]at h3;exact h3);have hdn:¬((d:Int)<0):=by omega
    have hds:(d:Int)<16:=by omega
    have hn60:n<1152921504606846976:=Nat.lt_of_lt_of_le HN.out (by
     have:(16:Nat) ^ k<=16 ^ 15:=Nat.pow_le_pow_right (by decide) hk;have e:(16:Nat) ^ 15=1152921504606846976:=by decide
     omega)
    have HOR:Hid (bits BinOp.or .u64 ((n:Int)*16) (d:Int)=((n*16+d:Nat):Int)):=hid (by
     have e1:((n:Int)*16)=((n*16:Nat):Int):=by omega
     rw[e1,aJD _ _ (by omega) (by omega)]
     congr 1
     have h5:=Nat.two_pow_add_eq_or_of_lt (i:=4) (b:=d) (by omega) n;rw[show n*16=2 ^ 4*n by omega];exact h5.symm)
    rw[hi];clear hd hi;go_wp2_with fail
    go_roundw
    case rel=>exact⟨k+1,n*16+d,by omega,by go_num,by rw[HOR.out],HX3.out,BW.out⟩
    case measure=>simp[intOf];omega
  ·obtain rfl:k=15:=by omega
   have HV:Hid ((hexF l 0).getD 0=n):=hid (by
    have h3:=HX.out;rw[List.take_of_length_le (by rw[HLN.out];exact Nat.le_refl _)]at h3;rw[h3];rfl)
   go_wp2_with fail
   go_ret2
   rw[HV.out];exact⟨by simp[Nat.pos_iff_ne_zero],B1.out.trans (BW.out.mono B1.out.size)⟩
theorem wZ (s:ByteArray)(w:World):Calls Tryz.prog 124 #[.string s] w fun e w'=>e = .returned (.tuple #[.int .u64 (bB (aP s)),.bool (decide (bB (aP s)≠0))])/\Below w.heap.size w w':=by
 by_cases h:s.size=16/\(aP s).getD 0 0=76
 ·exact gfirst_yes s w h.1 h.2
 ·rw[aAj (by rw[cV];exact h)];exact(aFz s w h).mono fun e w' ⟨h1,h2⟩=>⟨h1,by subst h2;exact Below.refl _ _⟩

theorem aFC (n:Nat)(w:World)(h1:1<=n)(h2:n<1152921504606846976):Calls Tryz.prog 25 #[.int .u64 n] w fun e w'=>e = .returned (.string (aK n))/\Below w.heap.size w w':=by
 have HN:Hid (aK n=bX (eZ n 0)):=hid (by
  unfold aK;rw[jO h1 h2];rfl)
 have HLT : Hid (n < 16 ^ 15) := Lib.hid (by have e : (16 : Nat) ^ 15 = 1152921504606846976 := by decide
                                             omega)
 have h1':¬((n:Int)<1):=by omega
 have h2':¬(1152921504606846976<=(n:Int)):=by omega
 obtain⟨i5,hi5,hz5,hy5,hw5⟩:∃i,Tryz.prog.info? 5=some i/\i.zero=some (.int .u8 0)/\i.size=1/\i.bytes=1:=info_parts Tryz.aEM;have HI:=hid (And.intro hi5 (And.intro hz5 (And.intro hy5 hw5)));clear hi5 hz5 hy5 hw5 h1 h2;have CONT:Hid (∀W:World,(w.alloc (.cells #[.int .u8 48,.int .u8 49,.int .u8 50,.int .u8 51,.int .u8 52,.int .u8 53,.int .u8 54,.int .u8 55,.int .u8 56,.int .u8 57,.int .u8 97,.int .u8 98,.int .u8 99,.int .u8 100,.int .u8 101,.int .u8 102] 148)).alloc (.cells (madeCells #[.int .u8 0] 16) 5)=W ->
   (∀d,d<16->W.cell? ⟨w.heap.size,d,none⟩=some (.int .u8 (gZ d:Nat)))/\W.ownsRow (w.heap.size+1) 5 1 (.slice (some ⟨w.heap.size+1,0,none⟩) 16 16) 16 ((ints (List.replicate 16 0)).map (.int .u8))/\Below w.heap.size w W):=hid (by
  intro W hW;subst hW;refine⟨fun d hd=>?_,?_,((Below.refl _ _).alloc (Nat.le_refl _) _).alloc (by simp) _⟩
  ·rw[Below.cell (B:=w.heap.size+1) (((Below.refl _ _).alloc (by simp) _)) (by simp)];rw[<- aHa d hd];have h:=heap_alloc_new w (.cells #[.int .u8 48,.int .u8 49,.int .u8 50,.int .u8 51,.int .u8 52,.int .u8 53,.int .u8 54,.int .u8 55,.int .u8 56,.int .u8 57,.int .u8 97,.int .u8 98,.int .u8 99,.int .u8 100,.int .u8 101,.int .u8 102] 148);unfold World.cell?;simp only;rw[h];have hall:∀d:Fin 16,(#[Value.int .u8 48,.int .u8 49,.int .u8 50,.int .u8 51,.int .u8 52,.int .u8 53,.int .u8 54,.int .u8 55,.int .u8 56,.int .u8 57,.int .u8 97,.int .u8 98,.int .u8 99,.int .u8 100,.int .u8 101,.int .u8 102]:Array Value)[d.val]? = some (.int .u8 (([48,49,50,51,52,53,54,55,56,57,97,98,99,100,101,102].getD d.val 0:Nat):Int)):=by
    intro d;obtain⟨d,hd⟩:=d
    match d,hd with
    | 0,_=>rfl
    | 1,_=>rfl
    | 2,_=>rfl
    | 3,_=>rfl
    | 4,_=>rfl
    | 5,_=>rfl
    | 6,_=>rfl
    | 7,_=>rfl
    | 8,_=>rfl
    | 9,_=>rfl
    | 10,_=>rfl
    | 11,_=>rfl
    | 12,_=>rfl
    | 13,_=>rfl
    | 14,_=>rfl
    | 15,_=>rfl
    | _+16,h=>exact absurd h (by omega)
   exact hall ⟨d,hd⟩
  ·have h:=heap_alloc_new (w.alloc (.cells #[.int .u8 48,.int .u8 49,.int .u8 50,.int .u8 51,.int .u8 52,.int .u8 53,.int .u8 54,.int .u8 55,.int .u8 56,.int .u8 57,.int .u8 97,.int .u8 98,.int .u8 99,.int .u8 100,.int .u8 101,.int .u8 102] 148)) (.cells (madeCells #[.int .u8 0] 16) 5);rw[World.size_alloc]at h;rw[show madeCells #[Value.int .u8 0] 16=((ints (List.replicate 16 0)).map (Value.int .u8)).toArray from Array.ext' ((toList_madeCells_one _ 16).trans rfl)]at h ⊢;exact cC.lit (zs:=ints (List.replicate 16 0)) (base:=w.heap.size+1) h (Nat.le_refl _) (by simp[ints]))
 go_enter Tryz.func25,Tryz.ntmps25
 go_wp2_with (at_make;refine wpList_make_row _ rfl _ _ 36 rfl 5 i5 (.int .u8 0) Tryz.underlying36 HI.out.1 HI.out.2.1 HI.out.2.2.1 rfl .i64 .i64 16 rfl rfl (by rw[HI.out.2.2.2];decide) (by decide) ?_;generalize hW:World.alloc (World.alloc w _) _=W;(try rw[World.size_alloc]);have TW:=hid (CONT.out W hW);have c0:W.cell? ⟨w.heap.size+1,0,none⟩=some (.int .u8 0):=(World.ownsRow.cellAt TW.out.2.1 0 (by decide)).trans rfl;have f0:W.frozen? ⟨w.heap.size+1,0,none⟩=false:=World.ownsRow.frozenAt TW.out.2.1 0;clear hW)
 have T1:Hid ((∀d,d<16->(W.setCell ⟨w.heap.size+1,0,none⟩ (.int .u8 76)).cell? ⟨w.heap.size,d,none⟩=some (.int .u8 (gZ d:Nat)))/\(W.setCell ⟨w.heap.size+1,0,none⟩ (.int .u8 76)).ownsRow (w.heap.size+1) 5 1 (.slice (some ⟨w.heap.size+1,0,none⟩) 16 16) 16 ((ints (eZ n 15)).map (.int .u8))/\Below w.heap.size w (W.setCell ⟨w.heap.size+1,0,none⟩ (.int .u8 76))):=hid (by
  refine⟨fun d hd=>?_,?_,TW.out.2.2.setCell (Nat.le_succ _) _⟩
  ·rw[World.cell?_setCell_other _ _ _ _ (by intro e;injection e with e1;omega)];exact TW.out.1 d hd
  ·exact(World.ownsRow.stored TW.out.2.1 0 (.int .u8 76)).1)
 clear c0 f0 TW CONT;generalize World.setCell W _ _=w1 at *
 go_loopw [0,5] (fun x y wr=>∃i:Nat,i<=15/\y = .int .i64 i/\x = .int .u64 (n / 16 ^ (15-i):Nat)/\(∀d,d<16->wr.cell? ⟨w.heap.size,d,none⟩=some (.int .u8 (gZ d:Nat)))/\wr.ownsRow (w.heap.size+1) 5 1 (.slice (some ⟨w.heap.size+1,0,none⟩) 16 16) 16 ((ints (eZ n i)).map (.int .u8))/\Below w.heap.size w wr) (fun _ y _=>(intOf y).toNat)
 case atStart=>exact⟨15,Nat.le_refl _,rfl,by simp,T1.out.1,T1.out.2.1,T1.out.2.2⟩
 case round =>
  obtain⟨i,hi,rfl,rfl,ht,ho,hb⟩:=hrel;have HT:=hid ht;have HO:=hid ho;have HB:=hid hb;clear ht ho hb;by_cases h0:i=0
  ·have z0:(i:Int)=0:=by omega
   have HO:=hid (show wr.ownsRow (w.heap.size+1) 5 1 (.slice (some ⟨w.heap.size+1,0,none⟩) 16 16) 16 ((ints (eZ n 0)).map (.int .u8)) by have h:=HO.out;rw[h0]at h;exact h);have HBY:Hid (Bytes wr (.slice (some ⟨w.heap.size+1,0,none⟩) 16 16) (eZ n 0)):=hid (by
    have hl:∀c ∈ eZ n 0,c<256:=fun c hc=>by
     unfold eZ at hc;simp only[List.replicate_zero,List.nil_append,List.mem_cons]at hc;rcases hc with rfl|hc
     ·decide
     ·exact vR _ _ c hc
    exact Bytes.dL (l:=eZ n 0) (by unfold cC;rw[aS,kL n 0 (by decide)];exact HO.out) hl (by rw[kL n 0 (by decide)];decide))
   have hds:(convert 36 9 (.slice (some ⟨w.heap.size+1,0,none⟩) 16 16)).run Tryz.prog wr = .ok (.string (bX (eZ n 0))) wr:=HBY.out.str Tryz.underlying36 Tryz.underlying5 Tryz.underlying9;clear h0 hi;go_wp2_with fail;go_ret;exact⟨by rw[HN.out];rfl,HB.out⟩
  ·obtain⟨q,hq⟩:∃q:Nat,n / 16 ^ (15-i)=q:=⟨_,rfl⟩;obtain⟨r,hr⟩:∃r:Nat,q % 16=r:=⟨_,rfl⟩;obtain⟨c,hc⟩:∃c:Nat,gZ r=c:=⟨_,rfl⟩;have hr16:r<16:=by rw[<- hr];exact Nat.mod_lt _ (by decide)
   have cr:=HT.out r hr16;rw[hc]at cr;have HNX:Hid ((eZ n i).set i c=eZ n (i-1)):=hid (by
    have h:=aAC n (i-1) (by omega);rw[show i-1+1=i by omega,show 14-(i-1)=15-i by omega,hq,hr,hc]at h;exact h)
   have HQ:Hid (n / 16 ^ (15-(i-1))=q / 16):=hid (by
    rw[<- hq,Nat.div_div_eq_div_mul,<- Nat.pow_succ]
    congr 2
    omega)
   obtain⟨Z,hZ⟩:∃Z:Int,(q:Int)=Z:=⟨_,rfl⟩;have HZ:=hid hZ;have hZ16:Z % 16=(r:Int):=by omega
   have hZ0:0<=Z:=by omega
   have hZ1:Z<1152921504606846976:=by
    have h1:q<=n:=by rw[<- hq];exact Nat.div_le_self _ _
    have h2:=HLT.out;have e:(16:Nat) ^ 15=1152921504606846976:=by decide
    omega
   have r0:(0:Int)<=(r:Int):=by omega
   have r1:(r:Int)<16:=by omega
   have i0:(0:Int)<(i:Int):=by omega
   have i3:0<i:=by omega
   have i1:(i:Int)<16:=by omega
   have i2:(0:Int)<=(i:Int):=by omega
   obtain⟨y,hy⟩:∃y:Int,wr.cell? ⟨w.heap.size+1,i,none⟩=some (.int .u8 y):=by
    have h:=World.ownsRow.cellAt HO.out i (by omega);have hlt:i<((ints (eZ n i)).map (Value.int .u8)).length:=by rw[List.length_map,aS,kL n i hi];omega
    rw[List.getElem?_eq_getElem hlt,List.getElem_map]at h;exact⟨_,h⟩
   have fy:wr.frozen? ⟨w.heap.size+1,i,none⟩=false:=World.ownsRow.frozenAt HO.out i;have HST:=hid (World.ownsRow.stored HO.out i (.int .u8 (c:Nat)));have hix:∀w',(Instr.indexAt 148 (.pointer (some ⟨w.heap.size,0,none⟩)) (.int .u64 (r:Int))).run Tryz.prog w' = .ok (.pointer (some ⟨w.heap.size,r,none⟩)) w':=fun w'=>by
    have h5:=Tryz.underlying148;rw[run_indexAt_array w' 148 ⟨w.heap.size,0,none⟩ .u64 r (by simp[Program.arrayLen,Program.elem,h5])];have ha:Tryz.prog.arrayLen 148=16:=by simp[Program.arrayLen,h5]
    have he:Tryz.prog.elem 148=5:=by simp[Program.elem,h5]
    rw[ha,he,if_pos ⟨r0,r1⟩];simp[sizeOf,typeInfo,HI.out.1,HI.out.2.2.1,Result.andThen,Addr.add_lit]
   rw[hq,hZ];clear hq hr hc hZ;go_wp2_with fail
   go_roundw
   case rel =>
    refine⟨i-1,by omega,by first|rfl|go_num|(congr 1;omega),?_,fun d hd=>?_,?_,HB.out.setCell (Nat.le_succ _) _⟩
    ·rw[HQ.out,<- HZ.out];rfl
    ·rw[World.cell?_setCell_other _ _ _ _ (by intro e;injection e with e1;omega)];exact HT.out d hd
    ·rw[<- HNX.out,zA];exact HST.out.1
   case measure=>simp[intOf];omega

theorem aEb (s:ByteArray)(i:Nat)(h:i<s.size):∃c:Nat,(aP s)[i]? = some c/\c<256 /\ ∀w',(Instr.index 9 (.string s) (.int .i64 (i:Int))).run Tryz.prog w' = .ok (.int .u8 (c:Int)) w':=by
 refine⟨s[i].toNat,?_,UInt8.toNat_lt _,fun w'=>?_⟩
 ·unfold aP;rw[List.getElem?_map,Array.getElem?_toList,Array.getElem?_eq_getElem (by exact h)];rfl
 ·rw[run_index_string w' 9 s .i64 (i:Int) Tryz.underlying9,dif_pos (by omega)];rfl
theorem qfirst_any (s:ByteArray)(w:World):Calls Tryz.prog 229 #[.string s] w fun e w'=>e = .returned (.tuple #[.int .u64 (bB (aP s)),.bool (decide (bB (aP s)≠0))])/\w=w':=by
 by_cases h:s.size=16/\(aP s).getD 0 0=76
 ·obtain⟨h1,h2⟩:=h;have h0:((s.size:Int) != 16)=false:=by rw[h1];rfl
  have HF:Hid (bB (aP s)=(hexF (aP s).tail 0).getD 0):=hid (by
   unfold bB;rw[if_pos ⟨by rw[cV];exact h1,h2⟩])
  obtain⟨c0,e0,_,hix⟩:=aEb s 0 (by omega);obtain rfl:c0=76:=by rw[List.getD_eq_getElem?_getD,e0]at h2;exact h2
  replace hix:∀w',(Instr.index 9 (.string s) (.int .i64 0)).run Tryz.prog w' = .ok (.int .u8 76) w':=hix;have HLN:Hid ((aP s).tail.length=15):=hid (by rw[List.length_tail,cV,h1]);have HIX:Hid (∀j:Nat,j<15 -> ∃c:Nat,(aP s).tail[j]? = some c/\c<256 /\ ∀w',(Instr.index 9 (.string s) (.int .i64 ((j:Int)+1))).run Tryz.prog w' = .ok (.int .u8 (c:Int)) w'):=hid fun j hj=>by
   obtain⟨c,e,h3,h4⟩:=aEb s (j+1) (by omega);exact⟨c,by rw[List.getElem?_tail];exact e,h3,fun w'=>by have:=h4 w';rwa [Int.natCast_succ]at this⟩
  rw[HF.out];generalize (aP s).tail=l at HLN HIX HF ⊢;clear h1 h2 e0 HF;go_enter Tryz.func229,Tryz.ntmps229;go_wp2_with fail
  go_loopw [4,5] (fun x y wr=>∃(k n:Nat),k<=15/\y = .int .i64 ((k:Int)+1)/\x = .int .u64 n/\hexF (l.take k) 0=some n/\wr=w) (fun _ y _=>16-(intOf y).toNat)
  case atStart=>exact⟨0,0,by omega,rfl,rfl,rfl,rfl⟩
  case round =>
   obtain⟨k,n,hk,rfl,rfl,hx,rfl⟩:=hrel;have HX:=hid hx;have hn60:n<1152921504606846976:=by
    have h3:=vQ hx;rw[List.length_take,HLN.out,Nat.min_eq_left hk]at h3;have:(16:Nat) ^ k<=16 ^ 15:=Nat.pow_le_pow_right (by decide) hk;have e:(16:Nat) ^ 15=1152921504606846976:=by decide
    omega
   clear hx;by_cases hlt:k<15
   ·obtain⟨c,hc,h256,hik⟩:=HIX.out k hlt;obtain⟨hkl,hce⟩:=List.getElem?_eq_some_iff.1 hc;have HX2:Hid (hexF (l.take (k+1)) 0=match jX c with|none=>none|some d=>some (n*16+d)):=hid (hce ▸ aAr HX.out hkl);have k1:(k:Int)+1<16:=by omega
    have k0:(0:Int)<=(k:Int)+1:=by omega
    clear hc hce hkl;have a3:(n:Int)<1152921504606846976:=by omega
    clear hn60;rcases(by omega:(48<=c/\c<=57)\/(97<=c/\c<=102)\/(¬(48<=c/\c<=57) /\ ¬(97<=c/\c<=102))) with hd|hd|⟨hd,hd2⟩
    ·have a1:(48:Int)<=(c:Int):=by omega
     have a2:(c:Int)<=57:=by omega
     have HX3:Hid (hexF (l.take (k+1)) 0=some (n*16+(c-48))):=hid (by rw[HX2.out];unfold jX;rw[if_pos hd]);clear hd;go_wp2_with fail
     go_roundw
     case rel=>exact⟨k+1,n*16+(c-48),by omega,by go_num,by congr 1;omega,HX3.out,by first|trivial|rfl⟩
     case measure=>simp[intOf];omega
    ·have a0:¬(c:Int)<=57:=by omega
     have a1:(97:Int)<=(c:Int):=by omega
     have a2:(c:Int)<=102:=by omega
     have a4:(48:Int)<=(c:Int):=by omega
     have HX3:Hid (hexF (l.take (k+1)) 0=some (n*16+(c-87))):=hid (by rw[HX2.out];unfold jX;rw[if_neg (by omega),if_pos hd]);clear hd;go_wp2_with fail
     go_roundw
     case rel=>exact⟨k+1,n*16+(c-87),by omega,by go_num,by congr 1;omega,HX3.out,by first|trivial|rfl⟩
     case measure=>simp[intOf];omega
    ·have HN0:Hid ((hexF l 0).getD 0=0):=hid (by
      have h3:=HX2.out;unfold jX at h3;rw[if_neg hd,if_neg hd2]at h3;rw[aAq h3];rfl)
     rcases(by omega:¬(48:Int)<=(c:Int) /\ ¬(97:Int)<=(c:Int)\/(48:Int)<=(c:Int) /\ ¬(c:Int)<=57 /\ ¬(97:Int)<=(c:Int)\/(48:Int)<=(c:Int) /\ ¬(c:Int)<=57/\(97:Int)<=(c:Int) /\ ¬(c:Int)<=102) with hq|hq|hq
     all_goals
      clear hd hd2;go_wp2_with fail
      go_ret2
      rw[HN0.out];exact⟨rfl,rfl⟩
   ·obtain rfl:k=15:=by omega
    have HV:Hid ((hexF l 0).getD 0=n):=hid (by
     have h3:=HX.out;rw[List.take_of_length_le (by rw[HLN.out];exact Nat.le_refl _)]at h3;rw[h3];rfl)
    go_wp2_with fail
    go_ret2
    rw[HV.out];exact⟨by simp[Nat.pos_iff_ne_zero],rfl⟩
 ·rw[aAj (by rw[cV];exact h)];by_cases h1:s.size=16
  ·have h0:((s.size:Int) != 16)=false:=by rw[h1];rfl
   obtain⟨c0,e0,_,hix⟩:=aEb s 0 (by omega);replace hix:∀w',(Instr.index 9 (.string s) (.int .i64 0)).run Tryz.prog w' = .ok (.int .u8 (c0:Int)) w':=hix;have hne:((c0:Int) != 76)=true:=by
    have:c0≠76:=fun e=>h ⟨h1,by rw[List.getD_eq_getElem?_getD,e0,e];rfl⟩;simp;omega
   clear h h1 e0;go_enter Tryz.func229,Tryz.ntmps229;go_wp2_with fail
   go_ret2
   exact⟨rfl,rfl⟩
  ·have h0:((s.size:Int) != 16)=true:=by simp;omega
   clear h h1;go_enter Tryz.func229,Tryz.ntmps229;go_wp2_with fail
   go_ret2
   exact⟨rfl,rfl⟩
theorem tR (n:Nat)(w:World)(h1:1<=n)(h2:n<1152921504606846976):Calls Tryz.prog 188 #[.int .u64 n] w fun e w'=>e = .returned (.string (aK n))/\Below w.heap.size w w':=by
 have HN:Hid (aK n=bX (eZ n 0)):=hid (by
  unfold aK;rw[jO h1 h2];rfl)
 have HLT : Hid (n < 16 ^ 15) := Lib.hid (by have e : (16 : Nat) ^ 15 = 1152921504606846976 := by decide
                                             omega)
 have h1':¬((n:Int)<1):=by omega
 have h2':¬(1152921504606846976<=(n:Int)):=by omega
 obtain⟨i5,hi5,hz5,hy5,hw5⟩:∃i,Tryz.prog.info? 5=some i/\i.zero=some (.int .u8 0)/\i.size=1/\i.bytes=1:=info_parts Tryz.aEM;have HI:=hid (And.intro hi5 (And.intro hz5 (And.intro hy5 hw5)));clear hi5 hz5 hy5 hw5 h1 h2;have MK:Hid (∀W:World,w.alloc (.cells (madeCells #[Value.int .u8 0] 16) 5)=W->W.ownsRow w.heap.size 5 1 (.slice (some ⟨w.heap.size,0,none⟩) 16 16) 16 ((ints (List.replicate 16 0)).map (.int .u8))/\Below w.heap.size w W):=hid (by
  intro W hW;subst hW;refine⟨?_,(Below.refl _ _).alloc (Nat.le_refl _) _⟩;have h:=heap_alloc_new w (.cells (madeCells #[Value.int .u8 0] 16) 5);rw[show madeCells #[Value.int .u8 0] 16=((ints (List.replicate 16 0)).map (Value.int .u8)).toArray from Array.ext' ((toList_madeCells_one _ 16).trans rfl)]at h ⊢;exact cC.lit (zs:=ints (List.replicate 16 0)) (base:=w.heap.size) h (Nat.le_refl _) (by simp[ints]))
 go_enter Tryz.func188,Tryz.ntmps188
 go_wp2_with (at_make;refine wpList_make_row _ rfl _ _ 36 rfl 5 i5 (.int .u8 0) Tryz.underlying36 HI.out.1 HI.out.2.1 HI.out.2.2.1 rfl .i64 .i64 16 rfl rfl (by rw[HI.out.2.2.2];decide) (by decide) ?_;generalize hW:World.alloc _ _=W;have TW:=hid (MK.out W hW);clear hW;have c0:W.cell? ⟨w.heap.size,0,none⟩=some (.int .u8 0):=(World.ownsRow.cellAt TW.out.1 0 (by decide)).trans rfl;have f0:W.frozen? ⟨w.heap.size,0,none⟩=false:=World.ownsRow.frozenAt TW.out.1 0)
 have T1:Hid ((W.setCell ⟨w.heap.size,0,none⟩ (.int .u8 76)).ownsRow w.heap.size 5 1 (.slice (some ⟨w.heap.size,0,none⟩) 16 16) 16 ((ints (eZ n 15)).map (.int .u8))/\Below w.heap.size w (W.setCell ⟨w.heap.size,0,none⟩ (.int .u8 76))):=hid ⟨(World.ownsRow.stored TW.out.1 0 (.int .u8 76)).1,TW.out.2.setCell (Nat.le_refl _) _⟩;clear c0 f0 TW MK;generalize World.setCell W _ _=w1 at *
 go_loopw [0,4] (fun x y wr=>∃i:Nat,i<=15/\y = .int .i64 i/\x = .int .u64 (n / 16 ^ (15-i):Nat)/\wr.ownsRow w.heap.size 5 1 (.slice (some ⟨w.heap.size,0,none⟩) 16 16) 16 ((ints (eZ n i)).map (.int .u8))/\Below w.heap.size w wr) (fun _ y _=>(intOf y).toNat)
 case atStart=>exact⟨15,Nat.le_refl _,rfl,by simp,T1.out.1,T1.out.2⟩
 case round =>
  obtain⟨i,hi,rfl,rfl,ho,hb⟩:=hrel;have HO:=hid ho;have HB:=hid hb;clear ho hb;by_cases h0:i=0
  ·have z0:(i:Int)=0:=by omega
   have HO:=hid (show wr.ownsRow w.heap.size 5 1 (.slice (some ⟨w.heap.size,0,none⟩) 16 16) 16 ((ints (eZ n 0)).map (.int .u8)) by have h:=HO.out;rw[h0]at h;exact h);have HBY:Hid (Bytes wr (.slice (some ⟨w.heap.size,0,none⟩) 16 16) (eZ n 0)):=hid (by
    have hl:∀c ∈ eZ n 0,c<256:=fun c hc=>by
     unfold eZ at hc;simp only[List.replicate_zero,List.nil_append,List.mem_cons]at hc;rcases hc with rfl|hc
     ·decide
     ·exact vR _ _ c hc
    exact Bytes.dL (l:=eZ n 0) (by unfold cC;rw[aS,kL n 0 (by decide)];exact HO.out) hl (by rw[kL n 0 (by decide)];decide))
   have hds:(convert 36 9 (.slice (some ⟨w.heap.size,0,none⟩) 16 16)).run Tryz.prog wr = .ok (.string (bX (eZ n 0))) wr:=HBY.out.str Tryz.underlying36 Tryz.underlying5 Tryz.underlying9;clear h0 hi;go_wp2_with fail;go_ret;exact⟨by rw[HN.out];rfl,HB.out⟩
  ·obtain⟨q,hq⟩:∃q:Nat,n / 16 ^ (15-i)=q:=⟨_,rfl⟩;obtain⟨r,hr⟩:∃r:Nat,q % 16=r:=⟨_,rfl⟩;have hr16:r<16:=by rw[<- hr];exact Nat.mod_lt _ (by decide)
   have HNX:Hid ((eZ n i).set i (gZ r)=eZ n (i-1)):=hid (by
    have h:=aAC n (i-1) (by omega);rw[show i-1+1=i by omega,show 14-(i-1)=15-i by omega,hq,hr]at h;exact h)
   have HQ:Hid (n / 16 ^ (15-(i-1))=q / 16):=hid (by
    rw[<- hq,Nat.div_div_eq_div_mul,<- Nat.pow_succ]
    congr 2
    omega)
   obtain⟨Z,hZ⟩:∃Z:Int,(q:Int)=Z:=⟨_,rfl⟩;have HZ:=hid hZ;have hZ16:Z % 16=(r:Int):=by omega
   have hZ0:0<=Z:=by omega
   have hZ1:Z<1152921504606846976:=by
    have h1:q<=n:=by rw[<- hq];exact Nat.div_le_self _ _
    have h2:=HLT.out;have e:(16:Nat) ^ 15=1152921504606846976:=by decide
    omega
   have r0:(0:Int)<=(r:Int):=by omega
   have i0:(0:Int)<(i:Int):=by omega
   have i3:0<i:=by omega
   have i1:(i:Int)<16:=by omega
   have i2:(0:Int)<=(i:Int):=by omega
   obtain⟨y,hy⟩:∃y:Int,wr.cell? ⟨w.heap.size,i,none⟩=some (.int .u8 y):=by
    have h:=World.ownsRow.cellAt HO.out i (by omega);have hlt:i<((ints (eZ n i)).map (Value.int .u8)).length:=by rw[List.length_map,aS,kL n i hi];omega
    rw[List.getElem?_eq_getElem hlt,List.getElem_map]at h;exact⟨_,h⟩
   have fy:wr.frozen? ⟨w.heap.size,i,none⟩=false:=World.ownsRow.frozenAt HO.out i;rw[hq,hZ];clear hq hr hZ;by_cases h10:r<10
   ·have t1:(r:Int)<10:=by omega
    have HST:=hid (World.ownsRow.stored HO.out i (.int .u8 (48+(r:Int))));have HVC:Hid ((48+(r:Int))=((gZ r:Nat):Int)):=hid (by unfold gZ;rw[if_pos h10];omega);go_wp2_with fail
    go_roundw
    case rel =>
     refine⟨i-1,by omega,by first|rfl|go_num|(congr 1;omega),by rw[HQ.out,<- HZ.out];rfl,?_,HB.out.setCell (Nat.le_refl _) _⟩;rw[<- HNX.out,zA,<- HVC.out];exact HST.out.1
    case measure=>simp[intOf];omega
   ·have t1:¬(r:Int)<10:=by omega
    have t2:(r:Int)<16:=by omega
    have HST:=hid (World.ownsRow.stored HO.out i (.int .u8 (97+(r:Int)-10)));have HVC:Hid ((97+(r:Int)-10)=((gZ r:Nat):Int)):=hid (by unfold gZ;rw[if_neg h10];omega);go_wp2_with fail
    go_roundw
    case rel =>
     refine⟨i-1,by omega,by first|rfl|go_num|(congr 1;omega),by rw[HQ.out,<- HZ.out];rfl,?_,HB.out.setCell (Nat.le_refl _) _⟩;rw[<- HNX.out,zA,<- HVC.out];exact HST.out.1
    case measure=>simp[intOf];omega

structure RV (w:World)(b rb:Nat)(v:Value)(l:List Nat):Prop where
 by':Bytes w v l
 own:l = []\/v.ownBlock=some rb
 ne:rb≠b
theorem aA7 {w:World}{b rb:Nat}{v:Value}{l:List Nat}{bad:Bool}(h:Box w (b,[v,.bool bad]))(r:RV w b rb v l):bT w b rb l bad :=
 ⟨⟨v,(h.2 0 v rfl).1,r.by',r.own⟩,r.ne,(h.2 1 _ rfl).1,(h.2 0 v rfl).2,(h.2 1 _ rfl).2⟩
theorem bT.jU {w:World}{b rb:Nat}{l:List Nat}{bad:Bool}(h:bT w b rb l bad):∃a c,Box w (b,[.slice a l.length c,.bool bad])/\RV w b rb (.slice a l.length c) l:=by
 obtain⟨v,h1,h2,h3⟩:=h.ex;obtain⟨a,c,rfl,_⟩:=h2.shape;refine⟨a,c,⟨h.lt,fun j u hj=>?_⟩,h2,h3,h.ne⟩
 match j,hj with
 | 0,hj=>obtain rfl:=Option.some.inj hj;exact⟨h1,h.free0⟩
 | 1,hj=>obtain rfl:=Option.some.inj hj;exact⟨h.bad,h.free1⟩
section
variable {S:Nat->Prop} {w0 w:World} {L:Bx} {R:World->Prop} (F:Fr S w0 w L R) (i:Nat) {b rb:Nat} {v:Value} {bad:Bool} {l:List Nat} (hi:L[i]? = some (b,[v,.bool bad])) (r:RV w b rb v l)
include F hi r
theorem aCF (m:Int)(hm0:0<=m)(hm:m<18446744073709551616):Calls Tryz.prog 225 #[.pointer (some ⟨b,0,none⟩),.int .u64 m] w fun e w'=>e = .returned (.int .u64 (bO m.toNat l)) /\ ∃a c,Fr S w0 w' (L.set i (b,[.slice a (cI m.toNat l).length c,.bool (bad || cF m.toNat l)])) R/\RV w' b rb (.slice a (cI m.toNat l).length c) (cI m.toNat l):=by
 refine(jQ b m l bad w (aA7 (F.box i _ hi) r) hm0 hm).mono ?_;rintro e w' ⟨rfl,hr,hk⟩;obtain⟨a,c,hb,hv⟩:=hr.jU;exact⟨rfl,a,c,F.jU i hi hk hb,hv⟩
theorem aKg (m:Nat)(hm:m<=1000000):Calls Tryz.prog 256 #[.pointer (some ⟨b,0,none⟩),.int .i64 m] w fun e w'=>e = .returned (.string (bX (dY m l))) /\ ∃a c,Fr S w0 w' (L.set i (b,[.slice a (iU m l).length c,.bool (bad || iT m l)])) R/\RV w' b rb (.slice a (iU m l).length c) (iU m l):=by
 refine(aAK b m l bad w (aA7 (F.box i _ hi) r) hm).mono ?_;rintro e w' ⟨rfl,hr,hk⟩;obtain⟨a,c,hb,hv⟩:=hr.jU;exact⟨rfl,a,c,F.jU i hi hk hb,hv⟩
theorem aJF:Calls Tryz.prog 226 #[.pointer (some ⟨b,0,none⟩)] w fun e w'=>e = .returned (.int .i64 (gV l bad))/\w=w':=yC b l bad w (aA7 (F.box i _ hi) r)
end
theorem RV.kept {w w':World}{b rb:Nat}{v:Value}{l:List Nat}{S:Nat->Prop}(h:RV w b rb v l)(hk:Kept w w' S)(hs:¬S rb):RV w' b rb v l :=
 ⟨h.by'.qY hk fun hne b' hb hs'=>by rcases h.own with rfl|ho;exact hne rfl;rw[ho]at hb;exact hs (Option.some.inj hb ▸ hs'),h.own,h.ne⟩
theorem RV.sf {S:Nat->Prop}{w0 w:World}{L:Bx}{R:World->Prop}(F:Fr S w0 w L R){b rb:Nat}{v:Value}{l:List Nat}(h:RV w b rb v l)(hr:rb<w0.heap.size)(hS:¬S rb):Sf (ow S (L.map (·.1))) w (fun u=>RV u b rb v l):=fun u ku =>
 h.kept ku fun hs=>hs.elim hS fun hs=>by
  obtain⟨p,hp,e⟩:=List.mem_map.1 hs;have:=(F.rng p hp).1;omega
theorem aI4 (t k:Int)(dv:Value)(d:List Nat)(w:World)(hB:Bytes w dv d) :
  Calls Tryz.prog 241 #[.agg #[.int .u64 t,.int .i64 k,dv]] w fun e w'=>e = .returned (.bool (wW t k d.length))/\Below w.heap.size w w':=by
 obtain⟨a,c,rfl,_⟩:=hB.shape;have hs:=hB.small;clear hB;by_cases h1:1<=t<;>by_cases h2:t<=1152921504606846976<;>by_cases h3:1<=k<;>by_cases h4:k<=3<;>by_cases h5:(d.length:Int)<=4096
 all_goals try (exfalso;omega)
 all_goals
  have HV:Hid (wW t k d.length=_):=hid (by
   unfold wW;simp only[h1,h2,h3,h4,h5,decide_true,decide_false,Bool.and_true,Bool.and_false];rfl)
  rw[HV.out];go_enter Tryz.func241,Tryz.ntmps241;go_wp2_with fail;go_ret;exact⟨rfl,(Below.refl _ _).alloc (Nat.le_refl _) _⟩
