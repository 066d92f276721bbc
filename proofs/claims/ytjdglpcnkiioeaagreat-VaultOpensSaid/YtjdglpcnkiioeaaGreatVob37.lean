/- For vltopens_law_holds. -/
import Derived.Test.YtjdglpcnkiioeaaGreatVob36
set_option maxHeartbeats 16000000
set_option maxRecDepth 100000
namespace Go.Proofs.YtjdglpcnkiioeaaGreat
open Go.Lib (hid)
open Go.RowKit Go.Maps Go.Proofs.Own

def dv (D:aA)(a:Option Addr)(c:Nat):Value:=.agg #[.int .i64 D.room,.slice a D.files.length c,.bool D.down,.int .i64 D.armed,.int .u64 D.steps]
def DR (D:aA)(a:Option Addr)(c:Nat)(w:World):Prop:=bJ w 3 (.slice a D.files.length c) (D.files.map rfV)
def QD (S:Nat->Prop)(r:aA × Nat)(w:World):Ending->World->Prop:=fun e w'=>∃a c,e = .returned (.tuple #[dv r.1 a c,.int .i64 r.2])/\Sf S w' (DR r.1 a c)/\Below w.heap.size w w'
def Q1 (S:Nat->Prop)(D:aA)(w:World):Ending->World->Prop:=fun e w'=>∃a c,e = .returned (dv D a c)/\Sf S w' (DR D a c)/\Below w.heap.size w w'

theorem aKU (S:Nat->Prop)(room:Int)(w:World):Calls Tryz.prog 30 #[.int .i64 room] w (Q1 S ⟨room,[],false,-1,0⟩ w):=by
 go_enter Tryz.func30,Tryz.ntmps30;go_wp2_with fail;refine bodyPost_ret (v:=dv ⟨room,[],false,-1,0⟩ none 0) (by simp[results,Tryz.results30,dv,go_sem]) rfl ?_;exact⟨_,_,rfl,fun v _=>bJ.nil _ _,(Below.refl _ _).alloc (Nat.le_refl _) _⟩
section
variable {S:Nat->Prop} {w:World} {D:aA} {a:Option Addr} {c:Nat} (h:In S w (DR D a c))
include h
end
theorem xV (D:aA)(a:Option Addr)(c:Nat)(w:World)(hs:0<=D.steps/\D.steps<=1000000000)(ha:-1<=D.armed/\D.armed<=9223372036854775807):Calls Tryz.prog 89 #[dv D a c] w
  fun e w'=>e = .returned (.tuple #[dv (bP D) a c,.bool (decide (D.armed≠0))])/\Below w.heap.size w w':=by
 have F:=(In.mk (S:=fun _=>False) (w:=w) nofun (Sf.all _ _)).fr;obtain⟨room,L,down,armed,steps⟩:=D;simp only at hs ha ⊢;unfold bP dv;by_cases h0:armed=0
 ·subst h0;go_enter Tryz.func89,Tryz.ntmps89;exact ed Tryz.results89
 ·have hd:decide (armed≠0)=true:=decide_eq_true h0;have h0b:(armed==0)=false:=beq_eq_false_iff_ne.2 h0;simp only[if_neg h0];rw[hd];by_cases hp:0<armed
  all_goals
   simp only[hp,if_true,if_false];go_enter Tryz.func89,Tryz.ntmps89;exact ed Tryz.results89
theorem DR.step {D:aA}{a:Option Addr}{c:Nat}{w:World}(h:DR D a c w):DR (bP D) a c w:=by unfold DR at h ⊢;rw[bE];exact h
def isName (n:ByteArray):Bool:=decide (1<=n.size/\n.size<=16)
theorem aI2 (n:ByteArray)(w:World):Calls Tryz.prog 86 #[.string n] w fun e w'=>e = .returned (.bool (isName n))/\w=w':=by
 rcases(by omega:(¬(1:Int)<=(n.size:Int))\/((1:Int)<=(n.size:Int)/\(n.size:Int)<=16)\/((1:Int)<=(n.size:Int) /\ ¬(n.size:Int)<=16)) with h1|⟨h1,h2⟩|⟨h1,h2⟩
 all_goals
  have HV:Hid (isName n=_):=hid (by first|exact decide_eq_true (p:=_/\_) ⟨by omega,by omega⟩|exact decide_eq_false (fun h=>by omega));go_enter Tryz.func86,Tryz.ntmps86;go_wp2_with fail;go_ret;exact⟨by rw[HV.out];rfl,rfl⟩
theorem bJ.file {w:World}{a:Option Addr}{n c:Nat}{L:List aJ}(h:bJ w 3 (.slice a n c) (L.map rfV)){j:Nat}{f:aJ}(hj:L[j]? = some f) :
  ∃b o,a=some ⟨b,o,none⟩/\b<w.heap.size/\w.cell? ⟨b,o+j*3,none⟩=some (.string f.name)/\w.cell? ⟨b,o+j*3+1,none⟩=some (.string (bX f.all))/\w.cell? ⟨b,o+j*3+2,none⟩=some (.int .i64 f.kept):=by
 obtain⟨hl,he⟩:=List.getElem?_eq_some_iff.1 hj;obtain⟨b,o,h1,h2,h3⟩:=h.at (j:=j) (by rw[List.length_map];exact hl);rw[List.getElem_map,he]at h3;exact⟨b,o,h1,h2,by have:=h3 0 _ rfl;rwa [Nat.add_zero]at this,h3 1 _ rfl,h3 2 _ rfl⟩
theorem aAl {α:Type}{l:List α}{j:Nat}(hj:j<l.length):∃x,l[j]? = some x/\x ∈ l:=⟨l[j],List.getElem?_eq_getElem hj,List.getElem_mem hj⟩
theorem lD {S:Nat->Prop}{w:World}{D:aA}{a:Option Addr}{c:Nat}(h:In S w (DR D a c))(n:ByteArray)(hm:D.files.length<=1000):Calls Tryz.prog 87 #[dv D a c,.string n] w fun e w'=>e = .returned (.int .i64 (oU n D.files))/\Below w.heap.size w w':=by
 have F:=h.fr;obtain⟨room,L,down,armed,steps⟩:=D;unfold dv;simp only at hm ⊢;go_enter Tryz.func87,Tryz.ntmps87;go_wp2_with fail;refine stq ?_;intro w F C;clear C
 go_loopw [5] (fun i wr=>∃j:Nat,i = .int .i64 j/\j<=L.length/\(∀g ∈ L.take j,¬g.name=n)/\wr=w) (fun i _=>L.length-(intOf i).toNat)
 case atStart=>exact⟨0,rfl,by omega,by simp,rfl⟩
 case round =>
  obtain⟨j,rfl,hj,hall,rfl⟩:=hrel;have HA:=hid hall;clear hall;refine fx fun C=>?_;by_cases hlt:j<L.length
  ·obtain⟨f,hf,_⟩:=aAl hlt;obtain⟨b,o,rfl,hbl,c0,c1,c2⟩:=F.r.file hf;have HF:=hid hf;clear hf;by_cases hn:f.name=n
   ·have hb:(f.name.toList==n.toList)=true:=by rw[aEc];exact decide_eq_true hn
    have HV:Hid (oU n L=j):=hid (uF HF.out hn HA.out);clear hn;go_wp2_with fail;go_ret;exact⟨by rw[HV.out];rfl,F.bel⟩
   ·have hb:(f.name.toList==n.toList)=false:=by rw[aEc];exact decide_eq_false hn
    have HNN:=hid hn;clear hn;go_wp2_with fail
    go_roundw
    case rel =>
     refine⟨j+1,by first|rfl|go_num,by omega,fun g hg=>?_,by first|trivial|rfl⟩;rw[List.take_add_one,HF.out]at hg;rcases List.mem_append.1 hg with hg|hg
     ·exact HA.out g hg
     ·obtain rfl:=List.mem_singleton.1 hg;exact HNN.out
    all_goals (show L.length-((j:Int)+1).toNat<L.length-((j:Int)).toNat;omega)
  ·obtain rfl:j=L.length:=by omega
   have HV:Hid (oU n L = -1):=hid (aGn fun f hf=>HA.out f (by rw[List.take_length];exact hf));go_wp2_with fail;go_ret;exact⟨by rw[HV.out];rfl,F.bel⟩

theorem rC:eQ Tryz.prog 67 159 3 40:=by
 obtain⟨i0,hi,hz0,hz1,hz2⟩:=info_parts (show (Tryz.prog.info? 159).map (fun i=>(i.zero,i.size,i.bytes))=some (some (.agg #[.string ⟨#[]⟩,.string ⟨#[]⟩,.int .i64 0]),3,40) by kernel_rfl);exact⟨Tryz.underlying67,⟨i0,_,hi,hz0,hz1,hz2,rfl⟩,by decide,by decide⟩
theorem nW (f:aJ):∀u ∈ rfV f,u.oneCell'=true:=by
 intro u hu;simp only[rfV,List.mem_cons,List.not_mem_nil,or_false]at hu;rcases hu with rfl|rfl|rfl<;>rfl
theorem aGU {n:ByteArray}{L:List aJ}{j:Nat}{f:aJ}(hf:L[j]? = some f):bH n (L.take (j+1))=if f.name=n then bH n (L.take j) else bH n (L.take j) ++ [f]:=by
 unfold bH;rw[List.take_add_one,hf,List.filter_append];split<;>rename_i h<;>simp[h]
theorem aAI {S:Nat->Prop}{w:World}{D:aA}{a:Option Addr}{c:Nat}(h:In S w (DR D a c))(n:ByteArray)(hm:D.files.length<=1000):Calls Tryz.prog 138 #[dv D a c,.string n] w (Q1 S { D with files:=bH n D.files } w):=by
 have F:=h.fr;obtain⟨room,L,down,armed,steps⟩:=D;unfold dv;simp only at hm ⊢;go_enter Tryz.func138,Tryz.ntmps138;go_wp2_with fail;refine stq ?_;intro w1 F1 C;clear C
 go_loopw [5,6] (fun lv i w=>∃j:Nat,i = .int .i64 j/\j<=L.length/\dU w w1.heap.size 159 3 lv ((bH n (L.take j)).map rfV)/\Below w1.heap.size w1 w) (fun _ i _=>L.length-(intOf i).toNat)
 case atStart=>exact⟨0,rfl,by omega,dU.nil _ _ _ _,Below.refl _ _⟩
 case round =>
  rename World=>w
  obtain⟨j,rfl,hj,hown,hb⟩:=hrel;have OW:=hid hown;have BR:=hid hb;have HLS:Hid ((List.map rfV (bH n (L.take j))).length<=4294967296):=hid (by rw[List.length_map];have h1:=iZ n (L.take j);have h2:=List.length_take_le j L;omega);obtain⟨la,lc,rfl⟩:=hown.shape;generalize hln:(List.map rfV (bH n (L.take j))).length=ln at *
  have HLN:=hid hln;have F:=F1.call hb;clear hown hln;refine fx fun C=>?_;by_cases hlt:j<L.length
  ·obtain⟨f,hf,_⟩:=aAl hlt;obtain⟨b,o,rfl,hbl,c0,c1,c2⟩:=F.r.file hf;have HD:=hid (aGU (n:=n) hf);clear hf;have hb:(f.name.toList==n.toList)=decide (f.name=n):=aEc _ _;by_cases hn:f.name=n
   ·rw[decide_eq_true hn]at hb;have HE:=hid (HD.out.trans (if_pos hn));clear hn;go_wp2_with fail
    go_roundw
    case rel=>exact⟨j+1,by first|rfl|go_num,by omega,by rw[HE.out];exact OW.out,BR.out⟩
    all_goals (show L.length-((j:Int)+1).toNat<L.length-((j:Int)).toNat;omega)
   ·rw[decide_eq_false hn]at hb;have HE:=hid (HD.out.trans (if_neg hn));clear hn
    go_wp2_with (at_builtin;refine ap1 rC OW.out rfl (nW f) (by rw[HLN.out];exact HLS.out) BR.out.size rfl rfl rfl rfl ?_;intro v2 w2 ho2 hb2;have O2:=hid ho2;have B2:=hid (BR.out.trans hb2);clear ho2 hb2)
    go_roundw
    case rel=>exact⟨j+1,by first|rfl|go_num,by omega,by rw[HE.out,List.map_append];exact O2.out,B2.out⟩
    all_goals (show L.length-((j:Int)+1).toNat<L.length-((j:Int)).toNat;omega)
  ·obtain rfl:j=L.length:=by omega
   rw[List.take_length]at OW HLN;have F:=F.put ((F1.own OW.out).imp (Z:=DR ⟨room,bH n L,down,armed,steps⟩ la lc) fun v hv=>by have:=bJ.gH hv;unfold DR;simp only;rwa [<- HLN.out,List.length_map]at this);have hl:ln=(bH n L).length:=by rw[<- HLN.out,List.length_map]
   subst hl;exact ed Tryz.results138
theorem bJ.jW {w:World}{b o n c:Nat}{L:List aJ}(h:bJ w 3 (.slice (some ⟨b,o,none⟩) n c) (L.map rfV)){j:Nat}{f:aJ}(hj:L[j]? = some f) :
  b<w.heap.size/\w.cell? ⟨b,o+j*3,none⟩=some (.string f.name)/\w.cell? ⟨b,o+j*3+1,none⟩=some (.string (bX f.all))/\w.cell? ⟨b,o+j*3+2,none⟩=some (.int .i64 f.kept):=by
 obtain⟨b',o',e,h1⟩:=h.file hj;cases e;exact h1
def oK (f:aJ)(L:List aJ)(k j:Nat):List aJ:=if j<=k then L.take j else L.take k++f::(L.drop k).take (j-k)
theorem aAu {f g:aJ}{L:List aJ}{k j:Nat}(hg:L[j]? = some g)(hj:j≠k):oK f L k (j+1)=oK f L k j ++ [g]:=by
 unfold oK;by_cases h:j<k
 ·rw[if_pos (by omega),if_pos (by omega),List.take_add_one,hg];rfl
 ·rw[if_neg (by omega),if_neg (by omega),List.append_assoc,List.cons_append];have e:(L.drop k).take (j+1-k)=(L.drop k).take (j-k) ++ [g]:=by
   rw[show j+1-k=(j-k)+1 by omega,List.take_add_one,List.getElem?_drop,show k+(j-k)=j by omega,hg];rfl
  rw[e]
theorem aIK {f g:aJ}{L:List aJ}{k:Nat}(hg:L[k]? = some g):oK f L k (k+1)=(oK f L k k ++ [f]) ++ [g]:=by
 unfold oK;rw[if_neg (by omega),if_pos (Nat.le_refl _),show k+1-k=0+1 by omega,List.take_add_one,List.getElem?_drop,Nat.add_zero,hg];simp
theorem aCl (f:aJ)(L:List aJ)(k j:Nat):(oK f L k j).length<=L.length+1:=by
 unfold oK;split
 ·have:=List.length_take_le' j L;omega
 ·rw[List.length_append,List.length_cons,List.length_take,List.length_take,List.length_drop];omega
theorem aFJ (f:aJ)(L:List aJ):∃k,k<=L.length/\(∀j g,j<k->L[j]? = some g->dS f.name g.name=false)/\(∀g,L[k]? = some g->dS f.name g.name=true)/\insFile f L=L.take k++f::L.drop k:=by
 obtain⟨A,B,h1,h2,h3,h4⟩:=aAv f L;refine⟨A.length,by rw[h1,List.length_append];omega,fun j g hj hg=>?_,fun g hg=>?_,?_⟩
 ·rw[h1,List.getElem?_append_left hj]at hg;exact h3 g (List.mem_of_getElem? hg)
 ·rw[h1,List.getElem?_append_right (Nat.le_refl _),Nat.sub_self]at hg;exact h4 g (by rw[List.head?_eq_getElem?];exact hg)
 ·rw[h2,h1,List.take_left,List.drop_left]
def fv (f:aJ):Value:=.agg #[.string f.name,.string (bX f.all),.int .i64 f.kept]
theorem xX {S:Nat->Prop}{w:World}{D:aA}{a:Option Addr}{c:Nat}(h:In S w (DR D a c))(f:aJ)(hm:D.files.length<=1000):Calls Tryz.prog 90 #[dv D a c,fv f] w (Q1 S { D with files:=bL f D.files } w):=by
 have F:=h.fr;obtain⟨room,L,down,armed,steps⟩:=D;unfold dv fv;simp only at hm ⊢;go_enter Tryz.func90,Tryz.ntmps90;go_wp2_with fail;refine stq ?_;intro w F C;clear C;refine(aAI (D:=⟨room,L,down,armed,steps⟩) (F.ins fun _ h=>h) f.name hm).mono ?_;rintro e w ⟨a1,c1,rfl,hs,hb⟩;have F:=F.next hb hs;clear hb hs;have LLL:=iZ f.name L;have HPUT:Hid (bL f L=insFile f (bH f.name L)):=hid rfl;simp only[dv]at F ⊢;generalize bH f.name L=L1 at *
 refine fx fun C=>?_;go_wp2_with fail;clear C;refine stq ?_;intro w1 F1 C;clear C;obtain⟨k,hk,hbef,hat,hins⟩:=aFJ f L1;have HBF:=hid hbef;have HAT:=hid hat;have HINS:=hid hins;clear hbef hat hins;have A1:=F1.anc
 go_loopw [5,6,7] (fun lv dv i w=>∃j:Nat,i = .int .i64 j/\j<=L1.length/\dv = .bool (decide (k<j))/\dU w w1.heap.size 159 3 lv ((oK f L1 k j).map rfV)/\A1.at w) (fun _ _ i _=>L1.length-(intOf i).toNat)
 case atStart=>exact⟨0,rfl,by omega,by simp,(by unfold oK;rw[if_pos (Nat.zero_le _)];exact dU.nil _ _ _ _),A1⟩
 case round =>
  rename World=>w
  obtain⟨j,rfl,hj,rfl,hown,hb⟩:=hrel;have hln:((oK f L1 k j).map rfV).length<=100000:=by rw[List.length_map];have h1:=aCl f L1 k j;omega
  obtain⟨la,lc,rfl⟩:=hown.shape;have F:=Fr.put hb (F1.own hown);clear hown hb;generalize hl0:((oK f L1 k j).map rfV).length=ln at *
  have HLN:=hid hl0;have HLS:=hid hln;clear hl0 hln;refine fx fun C=>?_;by_cases hlt:j<L1.length
  ·obtain⟨g,hf,_⟩:=aAl hlt;obtain⟨b,o,rfl,_⟩:=bJ.file F.r.2.2.1 hf;have F:=F.put (F.get fun _ h=>bJ.jW h.2.2.1 hf);have HF:=hid hf;clear hf;have hl:Op.bytesLess f.name.toList g.name.toList=dS f.name g.name:=aKk _ _;rcases Nat.lt_trichotomy j k with hjk|hjk|hjk
   ·have hdk:decide (k<j)=false:=decide_eq_false (by omega);rw[HBF.out j g hjk HF.out]at hl;have HNE:Hid (j≠k):=hid (by omega);have HDN:Hid (decide (k<j+1)=false):=hid (decide_eq_false (by omega));rw[hdk];clear hdk hjk;go_wp2_with fail;clear C;refine rg (⟨⟩:Pm [0,1,3,7,15,7,39,7,231,487,999,2047,4095] 0 [.h [0,1,2,3,4,5,6,7,8,9,10,11,12]] []) ?_;intro w F C;obtain⟨D,OW,hk1,_⟩:=F.r;have BR:=hid hk1
    go_wp2_with (at_builtin;refine ap1 rC OW rfl (nW g) (by rw[HLN.out];have:=HLS.out;omega) BR.out.size rfl rfl rfl rfl ?_;intro v2 w2 ho2 hb2;have O2:=hid ho2;have B2:=hid hb2;clear ho2 hb2)
    go_roundw
    case rel=>exact⟨j+1,by first|rfl|go_num,by omega,by rw[HDN.out],by rw[aAu HF.out HNE.out,List.map_append];exact O2.out,F.gr F1 BR.out B2.out⟩
    all_goals (show L1.length-((j:Int)+1).toNat<L1.length-((j:Int)).toNat;omega)
   ·have hdk:decide (k<j)=false:=decide_eq_false (by omega);rw[HAT.out g (hjk ▸ HF.out)]at hl;have HDN:Hid (decide (k<j+1)=true):=hid (decide_eq_true (by omega));subst hjk;rw[hdk];clear hdk;go_wp2_with fail;clear C;refine rg (⟨⟩:Pm [0,1,3,7,15,7,39,7,231,487,999,2047,4095] 0 [.h [0,1,2,3,4,5,6,7,8,9,10,11,12]] []) ?_;intro w F C;obtain⟨D,OW,hk1,_⟩:=F.r;have BR:=hid hk1
    go_wp2_with (at_builtin;first
     | (refine ap1 rC OW rfl (nW f) (by rw[HLN.out];have:=HLS.out;omega) BR.out.size rfl rfl rfl rfl ?_;intro v2 w2 ho2 hb2;have O2:=hid ho2;have F2:=F.gr F1 BR.out hb2;have C2:=F2.facts;simp only[fO,Nat.zero_add,Nat.reduceAdd,and_true]at C2;have D2:=bJ.jW F2.r.2.1 HF.out;have B2:=hid F2.r.1;clear ho2 hb2 OW)
     | (refine ap1 rC O2.out rfl (nW g) (by rw[List.length_append,HLN.out];have:=HLS.out;simp only[List.length_singleton];omega) B2.out.size rfl rfl rfl rfl ?_;intro v3 w3 ho3 hb3;have O3:=hid ho3;have B3:=hid hb3;clear ho3 hb3))
    go_roundw
    case rel=>exact⟨j+1,by first|rfl|go_num,by omega,by rw[HDN.out],by rw[aIK HF.out,List.map_append,List.map_append];exact O3.out,F2.gr F1 B2.out B3.out⟩
    all_goals (show L1.length-((j:Int)+1).toNat<L1.length-((j:Int)).toNat;omega)
   ·have hdk:decide (k<j)=true:=decide_eq_true hjk;have HNE:Hid (j≠k):=hid (by omega);have HDN:Hid (decide (k<j+1)=true):=hid (decide_eq_true (by omega));rw[hdk];clear hdk hjk;go_wp2_with fail;clear C;refine rg (⟨⟩:Pm [0,1,3,7,15,7,39,7,231,487,999,2047,4095] 0 [.h [0,1,2,3,4,5,6,7,8,9,10,11,12]] []) ?_;intro w F C;obtain⟨D,OW,hk1,_⟩:=F.r;have BR:=hid hk1
    go_wp2_with (at_builtin;refine ap1 rC OW rfl (nW g) (by rw[HLN.out];have:=HLS.out;omega) BR.out.size rfl rfl rfl rfl ?_;intro v2 w2 ho2 hb2;have O2:=hid ho2;have B2:=hid hb2;clear ho2 hb2)
    go_roundw
    case rel=>exact⟨j+1,by first|rfl|go_num,by omega,by rw[HDN.out],by rw[aAu HF.out HNE.out,List.map_append];exact O2.out,F.gr F1 BR.out B2.out⟩
    all_goals (show L1.length-((j:Int)+1).toNat<L1.length-((j:Int)).toNat;omega)
  ·obtain rfl:j=L1.length:=by omega
   by_cases hkm:k<L1.length
   ·have HEND:Hid (insFile f L1=oK f L1 k L1.length):=hid (by rw[HINS.out];unfold oK;rw[if_neg (by omega),List.take_of_length_le (l:=L1.drop k) (by rw[List.length_drop];exact Nat.le_refl _)]);rw[decide_eq_true hkm];replace F:=F.imp (Z:=DR ⟨room,bL f L,down,armed,steps⟩ la lc) fun v hv=>by have:=bJ.gH hv.1;unfold DR;simp only;rw[HPUT.out,HEND.out,<- List.length_map (f:=rfV),HLN.out];exact this
    have hl:ln=(bL f L).length:=by rw[<- HLN.out,List.length_map,HPUT.out,HEND.out]
    subst hl;exact ed Tryz.results90
   ·have HEND:Hid (insFile f L1=oK f L1 k L1.length ++ [f]):=hid (by
     have e:k=L1.length:=by omega
     rw[HINS.out];unfold oK;rw[if_pos (by omega),e,List.take_length,List.drop_length])
    rw[decide_eq_false hkm];obtain⟨OW,hk1,_⟩:=F.r;have BR:=hid hk1;have HL3:Hid ((List.map rfV (oK f L1 k L1.length) ++ [rfV f]).length=(bL f L).length):=hid (by rw[HPUT.out,HEND.out];simp)
    go_wp2_with (at_builtin;refine ap1 (r:=rfV f) rC OW rfl (nW f) (by rw[HLN.out];have:=HLS.out;omega) BR.out.size rfl rfl rfl rfl ?_;intro v2 w ho2 hb2;obtain⟨la2,lc2,rfl⟩:=ho2.shape;have F:=(F.gr F1 BR.out hb2).put ((F1.own ho2).imp (Z:=DR ⟨room,bL f L,down,armed,steps⟩ la2 lc2) (fun v hv=>by have:=bJ.gH hv;unfold DR;simp only;rw[<- HL3.out,show (bL f L).map rfV=List.map rfV (oK f L1 k L1.length) ++ [rfV f] from(by rw[HPUT.out,HEND.out,List.map_append];rfl)];exact this));rw[HL3.out];have C2:=F.facts;simp only[fO,Nat.zero_add,Nat.reduceAdd,and_true]at C2;clear ho2 hb2 OW)
    exact ed Tryz.results90

theorem aY.aBt {D:aA}(h:aY D):(0<=D.steps/\D.steps<=1000000000)/\(-1<=D.armed/\D.armed<=9223372036854775807)/\D.files.length<=1000 :=
 ⟨⟨h.wf.steps0,h.wf.steps1⟩,⟨h.wf.armed0,h.wf.armed1⟩,by have:=h.few;omega⟩
theorem qW {D:aA}{n:ByteArray}(h:D.down=true):bI D n=50:=by unfold bI;rw[if_pos h]
theorem rQ {D:aA}{n:ByteArray}(h:D.down=false)(e:aE n D.files=none):bI D n=31:=by unfold bI;rw[if_neg (by rw[h];decide),if_pos e]
theorem aHH {D:aA}{n:ByteArray}(h:D.down=true):removeD D n=(D,50):=by
 unfold removeD;rw[qW h];split<;>simp[h]
theorem yA {D:aA}{n:ByteArray}(h:D.down=false)(e:aE n D.files=none):removeD D n=(D,31):=by
 unfold removeD;rw[rQ h e,e]
theorem yB {D:aA}{n:ByteArray}{f:aJ}(h:D.down=false)(e:aE n D.files=some f):removeD D n=if D.armed=0 then (bP D,50) else ({ bP D with files:=bH n (bP D).files },0):=by
 unfold removeD;rw[e,bE];simp[h]
theorem aH3 {D:aA}{n:ByteArray}(h:D.down=true):syncD D n=(D,50):=by
 unfold syncD;rw[qW h];split<;>simp[h]
theorem aH4 {D:aA}{n:ByteArray}(h:D.down=false)(e:aE n D.files=none):syncD D n=(D,31):=by
 unfold syncD;rw[rQ h e,e]
theorem aH5 {D:aA}{n:ByteArray}{f:aJ}(h:D.down=false)(e:aE n D.files=some f):syncD D n=if D.armed=0 then (bP D,50) else ({ bP D with files:=bL { f with kept:=f.all.length } (bP D).files },0):=by
 unfold syncD;rw[e,bE];simp[h]
section
variable {S:Nat->Prop} {w:World} {D:aA} {a:Option Addr} {c:Nat} (h:In S w (DR D a c)) (hg:aY D)
include h hg
theorem rY (n:ByteArray):Calls Tryz.prog 185 #[dv D a c,.string n] w (QD S (removeD D n) w):=by
 have F:=h.fr;obtain⟨hs,ha,hf⟩:=hg.aBt;have ST:=hid (xV D a c · hs ha)
 obtain⟨room,L,down,armed,steps⟩:=D;unfold dv;cases down
 ·go_enter Tryz.func185,Tryz.ntmps185;go_wp2_with fail;refine stq ?_;intro w F C;clear C;refine(lD (F.ins fun _ h=>h) n hf).mono ?_;rintro e w ⟨rfl,hb⟩;replace F:=F.call hb;cases e:aE n L with
  | none =>
   have HV:=hid (yA (D:=⟨room,L,false,armed,steps⟩) rfl e);rw[fR.2 e];exact ed Tryz.results185
  | some f =>
   have HV:=hid (yB (D:=⟨room,L,false,armed,steps⟩) rfl e);obtain⟨i,hI,_⟩:=eR e;have i0:¬(i:Int)<0:=by omega
   simp only[hI];refine fx fun C=>?_
   go_wp2_with (refine stq ?_;clear C;intro w F C)
   refine(ST.out w).mono ?_;rintro e w ⟨rfl,hb⟩;replace F:=(F.call hb).imp fun _ h=>h.step;have HL:(bP ⟨room,L,false,armed,steps⟩).files.length<=1000:=by rw[bE];exact hf
   generalize bP ⟨room,L,false,armed,steps⟩=D1 at *
   clear C ST;by_cases h0:armed=0
   ·replace HV:=hid (HV.out.trans (if_pos h0));simp only[h0,ne_eq,not_true_eq_false,decide_false,dv];exact ed Tryz.results185
   ·replace HV:=hid (HV.out.trans (if_neg h0));simp only[decide_eq_true h0,dv];refine fx fun C=>?_
    go_wp2_with (refine stq ?_;clear C;intro w F C)
    refine(aAI (F.ins fun _ h=>h) n HL).mono ?_;rintro e w ⟨a1,c1,rfl,hs,hb⟩;replace F:=F.next hb hs;simp only[dv];exact ed Tryz.results185
 ·rw[aHH rfl];go_enter Tryz.func185,Tryz.ntmps185;exact ed Tryz.results185
theorem xW (n:ByteArray):Calls Tryz.prog 35 #[dv D a c,.string n] w (QD S (syncD D n) w):=by
 have F:=h.fr;obtain⟨hs,ha,hf⟩:=hg.aBt;have ST:=hid (xV D a c · hs ha)
 obtain⟨room,L,down,armed,steps⟩:=D;unfold dv;go_enter Tryz.func35,Tryz.ntmps35;go_wp2_with fail;refine stq ?_;intro w F C;clear C;refine(lD (F.ins fun _ h=>h) n hf).mono ?_;rintro e w ⟨rfl,hb⟩;replace F:=F.call hb;cases down
 ·cases e:aE n L with
  | none =>
   have HV:=hid (aH4 (D:=⟨room,L,false,armed,steps⟩) rfl e);rw[fR.2 e];exact ed Tryz.results35
  | some f =>
   have HV:=hid (aH5 (D:=⟨room,L,false,armed,steps⟩) rfl e);obtain⟨i,hI,hLi⟩:=eR e;have i0:¬(i:Int)<0:=by omega
   obtain⟨b,o,rfl,_⟩:=bJ.file F.r hLi;replace F:=F.put (F.get fun _ h=>bJ.jW h hLi);simp only[hI];refine fx fun C=>?_
   go_wp2_with (refine stq ?_;clear C;intro w F C)
   refine(ST.out w).mono ?_;rintro e w ⟨rfl,hb⟩;replace F:=(F.call hb).imp fun _ h=>And.intro h.1 h.2.step;have HL:(bP ⟨room,L,false,armed,steps⟩).files.length<=1000:=by rw[bE];exact hf
   have i1:i<(bP ⟨room,L,false,armed,steps⟩).files.length:=by rw[bE];exact(List.getElem?_eq_some_iff.1 hLi).1
   generalize bP ⟨room,L,false,armed,steps⟩=D1 at *
   clear C ST;by_cases h0:armed=0
   ·replace HV:=hid (HV.out.trans (if_pos h0));simp only[h0,ne_eq,not_true_eq_false,decide_false,dv];exact ed Tryz.results35
   ·replace HV:=hid (HV.out.trans (if_neg h0));simp only[decide_eq_true h0,dv];have hss:=cH f.all;refine fx fun C=>?_
    go_wp2_with (refine stq ?_;clear C;intro w F C)
    refine(xX (F.ins fun _ h=>h.2) ⟨f.name,f.all,f.all.length⟩ HL).mono ?_;rintro e w ⟨a1,c1,rfl,hs,hb⟩;replace F:=F.next hb hs;simp only[dv];exact ed Tryz.results35
 ·have HV:=hid (aH3 (D:=⟨room,L,true,armed,steps⟩) (n:=n) rfl);exact ed Tryz.results35
end

theorem aGP {D:aA}{n:ByteArray}{k:Int}(h:D.down=true):cutD D n k=(D,50):=by
 unfold cutD;rw[qW h];split<;>simp[h]
theorem aGQ {D:aA}{n:ByteArray}{k:Int}(h:D.down=false)(e:aE n D.files=none):cutD D n k=(D,31):=by
 unfold cutD;rw[rQ h e,e]
theorem aGR {D:aA}{n:ByteArray}{k:Int}{f:aJ}(h:D.down=false)(e:aE n D.files=some f):cutD D n k=if k<0\/(f.all.length:Int)<k then (D,2) else if D.armed=0 then (bP D,50) else ({ bP D with files:=bL ⟨f.name,f.all.take k.toNat,min f.kept k.toNat⟩ (bP D).files },0):=by
 unfold cutD;rw[e,bE];simp[h]
section
variable {S:Nat->Prop} {w:World} {D:aA} {a:Option Addr} {c:Nat} (h:In S w (DR D a c)) (hg:aY D)
include h hg
theorem aJE (n:ByteArray)(k:Int):Calls Tryz.prog 184 #[dv D a c,.string n,.int .i64 k] w (QD S (cutD D n k) w):=by
 have F:=h.fr;obtain⟨hs,ha,hf⟩:=hg.aBt;have ST:=hid (xV D a c · hs ha)
 obtain⟨room,L,down,armed,steps⟩:=D;unfold dv;go_enter Tryz.func184,Tryz.ntmps184;go_wp2_with fail;refine stq ?_;intro w F C;clear C;refine(lD (F.ins fun _ h=>h) n hf).mono ?_;rintro e w ⟨rfl,hb⟩;replace F:=F.call hb;cases down
 ·cases e:aE n L with
  | none =>
   have HV:=hid (aGQ (D:=⟨room,L,false,armed,steps⟩) (k:=k) rfl e);rw[fR.2 e];exact ed Tryz.results184
  | some f =>
   have HV:=hid (aGR (D:=⟨room,L,false,armed,steps⟩) (k:=k) rfl e);obtain⟨i,hI,hLi⟩:=eR e;have i0:¬(i:Int)<0:=by omega
   have i2:=(List.getElem?_eq_some_iff.1 hLi).1;obtain⟨b,o,rfl,_⟩:=bJ.file F.r hLi;replace F:=F.put (F.get fun _ h=>bJ.jW h hLi);simp only[hI];have hss:=cH f.all;rcases(by omega:k<0\/(¬k<0/\(f.all.length:Int)<k)\/(¬k<0 /\ ¬(f.all.length:Int)<k)) with hk|⟨hk0,hk⟩|⟨hk0,hk⟩
   ·replace HV:=hid (HV.out.trans (if_pos (.inl hk)));replace F:=F.imp fun _ h=>And.intro h.2 h.1;exact ed Tryz.results184
   ·replace HV:=hid (HV.out.trans (if_pos (.inr hk)));replace F:=F.imp fun _ h=>And.intro h.2 h.1;exact ed Tryz.results184
   ·replace HV:=hid (HV.out.trans (if_neg fun q=>q.elim hk0 hk));obtain⟨m,rfl⟩:∃m:Nat,k=m:=⟨k.toNat,by omega⟩;have hex:=aGl f.all m;have hk1:(m:Int)<=(f.all.length:Int):=by omega
    have hk2:m<=f.all.length:=by omega
    refine fx fun C=>?_
    go_wp2_with (refine stq ?_;clear C;intro w F C)
    refine(ST.out w).mono ?_;rintro e w ⟨rfl,hb⟩;replace F:=(F.call hb).imp fun _ h=>And.intro h.1 h.2.step;have HL:(bP ⟨room,L,false,armed,steps⟩).files.length<=1000:=by rw[bE];exact hf
    have i1:i<(bP ⟨room,L,false,armed,steps⟩).files.length:=by rw[bE];exact(List.getElem?_eq_some_iff.1 hLi).1
    generalize bP ⟨room,L,false,armed,steps⟩=D1 at *
    clear C ST i2;by_cases h0:armed=0
    ·replace HV:=hid (HV.out.trans (if_pos h0));simp only[h0,ne_eq,not_true_eq_false,decide_false,dv];replace F:=F.imp fun _ h=>h.2;exact ed Tryz.results184
    ·replace HV:=hid (HV.out.trans (if_neg h0));simp only[decide_eq_true h0,dv];have HM:=hid (show (⟨f.name,f.all.take (m:Int).toNat,min f.kept (m:Int).toNat⟩:aJ)=⟨f.name,f.all.take m,min f.kept m⟩ by simp);rw[HM.out]at HV;by_cases hkm:f.kept<=m
     ·have hkm2:¬(m:Int)<(f.kept:Int):=by omega
      have HX:=hid (Nat.min_eq_left hkm);rw[HX.out]at HV;clear hkm;refine fx fun C=>?_
      go_wp2_with (refine stq ?_;clear C;intro w F C)
      refine(xX (F.ins fun _ h=>h.2) ⟨f.name,f.all.take m,f.kept⟩ HL).mono ?_;rintro e w ⟨a1,c1,rfl,hs,hb⟩;replace F:=F.next hb hs;simp only[dv];exact ed Tryz.results184
     ·have hkm2:(m:Int)<(f.kept:Int):=by omega
      have HX:=hid (Nat.min_eq_right (Nat.le_of_not_le hkm));rw[HX.out]at HV;clear hkm;refine fx fun C=>?_
      go_wp2_with (refine stq ?_;clear C;intro w F C)
      refine(xX (F.ins fun _ h=>h.2) ⟨f.name,f.all.take m,m⟩ HL).mono ?_;rintro e w ⟨a1,c1,rfl,hs,hb⟩;replace F:=F.next hb hs;simp only[dv];exact ed Tryz.results184
 ·have HV:=hid (aGP (D:=⟨room,L,true,armed,steps⟩) (n:=n) (k:=k) rfl);exact ed Tryz.results184

end

theorem oD (L:List aJ)(j:Nat):total (L.take j)<=total L:=by
 have h:=aAV (L.take j) (L.drop j);rw[List.take_append_drop]at h;omega
theorem yW {L:List aJ}{j:Nat}{f:aJ}(hf:L[j]? = some f):total (L.take (j+1))=total (L.take j)+f.all.length:=by
 rw[List.take_add_one,hf,aAV];simp[total]
theorem nF {L:List aJ}(h:total L<=1048576):∀f ∈ L,f.all.length<=1048576:=fun f hf=>by
 obtain⟨i,hi⟩:=List.getElem?_of_mem hf;have h2:=yW hi;have h3:=oD L (i+1);omega

theorem aHy {S:Nat->Prop}{w:World}{D:aA}{a:Option Addr}{c:Nat}(h:In S w (DR D a c))(hg:aY D):Calls Tryz.prog 88 #[dv D a c] w fun e w'=>e = .returned (.int .i64 (iV D))/\Below w.heap.size w w':=by
 have F:=h.fr;obtain⟨room,L,down,armed,steps⟩:=D;have htot:total L<=1048576:=hg.tot;have hrm0:0<=room:=hg.wf.room0;have hrm1:room<=1048576:=hg.wf.room1;have hfew:L.length<=128:=hg.few;clear hg;unfold dv;go_enter Tryz.func88,Tryz.ntmps88;go_wp2_with fail;refine stq ?_;intro w F C;clear C
 go_loopw [3,4] (fun nv i wr=>∃j:Nat,i = .int .i64 j/\j<=L.length/\nv = .int .i64 (room-(total (L.take j):Nat))/\wr=w) (fun _ i _=>L.length-(intOf i).toNat)
 case atStart=>exact⟨0,rfl,by omega,by simp[total],rfl⟩
 case round =>
  obtain⟨j,rfl,hj,rfl,rfl⟩:=hrel;have ht:=oD L j;by_cases hlt:j<L.length
  ·obtain⟨f,hf,_⟩:=aAl hlt;obtain⟨b,o,rfl,_⟩:=bJ.file F.r hf;replace F:=F.put (F.get fun _ h=>bJ.jW h hf);have hsn:=yW hf;have ht2:=oD L (j+1);have hss:=cH f.all;obtain⟨T,hT⟩:∃T,total (L.take j)=T:=⟨_,rfl⟩;have HSN:Hid (total (L.take (j+1))=T+f.all.length):=hid (by rw[hsn,hT]);have hb1:(T:Int)+(f.all.length:Int)<=1048576:=by omega
   rw[hT]at ht ⊢;clear hf hsn ht2 hT;refine fx fun C=>?_;go_wp2_with fail
   go_roundw
   case rel=>exact⟨j+1,by first|rfl|go_num,by omega,by rw[HSN.out];first|go_num|(congr 1;omega)|skip,by first|trivial|rfl⟩
   all_goals (show L.length-((j:Int)+1).toNat<L.length-((j:Int)).toNat;omega)
  ·obtain rfl:j=L.length:=by omega
   have HTT:Hid (total (L.take L.length)=total L):=hid (by rw[List.take_length]);rw[HTT.out];rw[HTT.out]at ht;refine fx fun C=>?_;have HV:Hid (iV ⟨room,L,down,armed,steps⟩=if room-(total L:Int)<0 then 0 else room-(total L:Int)):=hid (by unfold iV;simp only;omega);by_cases hneg:room-(total L:Int)<0
   ·go_wp2_with fail;go_ret;exact⟨by rw[HV.out,if_pos hneg];rfl,F.bel⟩
   ·go_wp2_with fail;go_ret;exact⟨by rw[HV.out,if_neg (by omega)];rfl,F.bel⟩
theorem aGH {D:aA}{n:ByteArray}{bs:List Nat}(h:D.down=true):aV D n bs=(D,50):=by
 have e:mF D n bs=50:=by unfold mF;rw[if_pos h]
 unfold aV;rw[if_pos (by rw[e];decide),e]
theorem aGI {D:aA}{n:ByteArray}{bs:List Nat}(h:D.down=false)(hn:isName n=false):aV D n bs=(D,2):=by
 have e:mF D n bs=2:=by unfold mF;rw[if_neg (by rw[h];decide),if_pos (of_decide_eq_false hn)]
 unfold aV;rw[if_pos (by rw[e];decide),e]
theorem wE {D:aA}{n:ByteArray}{bs:List Nat}(h:D.down=false)(hn:isName n=true)(hf:(aE n D.files=none/\128<=D.files.length)\/iV D<bs.length):aV D n bs=(D,30):=by
 have e:mF D n bs=30:=by unfold mF;rw[if_neg (by rw[h];decide),if_neg (not_not_intro (of_decide_eq_true hn)),if_pos hf]
 unfold aV;rw[if_pos (by rw[e];decide),e]
theorem aGJ {D:aA}{n:ByteArray}{bs:List Nat}{f:aJ}(h:D.down=false)(hn:isName n=true)(hf:¬((aE n D.files=none/\128<=D.files.length)\/iV D<bs.length))(hg:cW D n=f) :
  aV D n bs=(bP { D with files:=bL ⟨f.name,f.all++bs,f.kept⟩ D.files },if D.armed=0 then 50 else 0):=by
 have e:mF D n bs=0:=by unfold mF;rw[if_neg (by rw[h];decide),if_neg (not_not_intro (of_decide_eq_true hn)),if_neg hf]
 subst hg;unfold aV;rw[if_neg (by rw[e];decide)];rfl
theorem aHx {S:Nat->Prop}{w:World}{D:aA}{a:Option Addr}{c:Nat}(h:In S w (DR D a c))(hg:aY D)(n:ByteArray)(bs:List Nat)(hbs:bs.length<=2097152):Calls Tryz.prog 33 #[dv D a c,.string n,.string (bX bs)] w (QD S (aV D n bs) w):=by
 have F:=h.fr;obtain⟨hs,ha,hf⟩:=hg.aBt;have hsb:=cH bs;have hge:∀f ∈ D.files,f.all.length<=1048576:=nF hg.tot;obtain⟨room,L,down,armed,steps⟩:=D;simp only at hge hs ha hf;have HGE:=hid hge;clear hge;unfold dv;cases down
 ·go_enter Tryz.func33,Tryz.ntmps33;go_wp2_with fail;refine stq ?_;intro w F C;refine(aI2 n w).mono ?_;rintro e w' ⟨rfl,rfl⟩;clear C;cases hnm:isName n
  ·have HV:=hid (aGI (D:=⟨room,L,false,armed,steps⟩) (bs:=bs) rfl hnm);exact ed Tryz.results33
  ·refine fx fun C=>?_
   go_wp2_with (refine stq ?_;clear C;intro w F C)
   refine(lD (F.ins fun _ h=>h) n hf).mono ?_;rintro e w ⟨rfl,hb⟩;replace F:=F.call hb;clear C hb;cases e:aE n L with
   | none =>
    rw[fR.2 e];by_cases h128:128<=L.length
    ·have HV:=hid (wE (D:=⟨room,L,false,armed,steps⟩) (bs:=bs) rfl hnm (.inl ⟨e,h128⟩));have h128b:(128:Int)<=(L.length:Int):=by omega
     exact ed Tryz.results33
    ·have h128b:¬(128:Int)<=(L.length:Int):=by omega
     refine fx fun C=>?_
     go_wp2_with (refine stq ?_;clear C;intro w F C)
     refine(aHy (D:=⟨room,L,false,armed,steps⟩) (F.ins fun _ h=>h) hg).mono ?_;rintro e w ⟨rfl,hb⟩;replace F:=F.call hb;clear C hb;by_cases hfr:iV ⟨room,L,false,armed,steps⟩<(bs.length:Int)
     ·have HV:=hid (wE (D:=⟨room,L,false,armed,steps⟩) (bs:=bs) rfl hnm (.inr hfr));exact ed Tryz.results33
     ·have HV:=hid (show aV ⟨room,L,false,armed,steps⟩ n bs=(bP ⟨room,bL ⟨n,bs,0⟩ L,false,armed,steps⟩,if armed=0 then 50 else 0) from aGJ (D:=⟨room,L,false,armed,steps⟩) rfl hnm (fun q=>q.elim (fun q=>h128 q.2) hfr) (tE e));have hcat:(⟨#[]⟩:ByteArray)++bX bs=bX bs:=yR [] bs;have hcl:((⟨#[]⟩:ByteArray).size:Int)+((bX bs).size:Int)<=9223372036854775807:=by show (0:Int)+_<=_;rw[cH];omega
      refine fx fun C=>?_
      go_wp2_with (refine stq ?_;clear C;intro w F C)
      refine(xX (D:=⟨room,L,false,armed,steps⟩) (F.ins fun _ h=>h) ⟨n,bs,0⟩ hf).mono ?_;rintro e w ⟨a1,c1,rfl,hs1,hb⟩;replace F:=F.next hb hs1;clear C hs1 hb;generalize bL ⟨n,bs,0⟩ L=L1 at *
      refine fx fun C=>?_
      go_wp2_with (refine stq ?_;clear C;intro w F C)
      refine(xV ⟨room,L1,false,armed,steps⟩ a1 c1 w hs ha).mono ?_;rintro e w ⟨rfl,hb⟩;replace F:=(F.call hb).imp fun _ h=>And.intro h.1.step h.2;clear C;simp only at F ⊢;generalize bP ⟨room,L1,false,armed,steps⟩=D1 at *
      by_cases h0:armed=0
      ·replace HV:=hid (HV.out.trans (by rw[if_pos h0]));simp only[h0,ne_eq,not_true_eq_false,decide_false,dv];exact ed Tryz.results33
      ·replace HV:=hid (HV.out.trans (by rw[if_neg h0]));simp only[decide_eq_true h0,dv];exact ed Tryz.results33
   | some f =>
    obtain⟨i,hI,hLi⟩:=eR e;have i0:¬(i:Int)<0:=by omega
    have i1:=(List.getElem?_eq_some_iff.1 hLi).1;rw[hI];refine fx fun C=>?_
    go_wp2_with (refine stq ?_;clear C;intro w F C)
    refine(aHy (D:=⟨room,L,false,armed,steps⟩) (F.ins fun _ h=>h) hg).mono ?_;rintro e w ⟨rfl,hb⟩;replace F:=F.call hb;clear C hb;by_cases hfr:iV ⟨room,L,false,armed,steps⟩<(bs.length:Int)
    ·have HV:=hid (wE (D:=⟨room,L,false,armed,steps⟩) (bs:=bs) rfl hnm (.inr hfr));exact ed Tryz.results33
    ·have HV:=hid (aGJ (D:=⟨room,L,false,armed,steps⟩) (bs:=bs) rfl hnm (fun q=>q.elim (fun q=>by rw[e]at q;cases q.1) hfr) (eI e));obtain⟨b,o,rfl,_⟩:=bJ.file F.r hLi;replace F:=F.put (F.get fun _ h=>bJ.jW h hLi);have hcat:bX f.all++bX bs=bX (f.all++bs):=yR f.all bs;have hcl:((bX f.all).size:Int)+((bX bs).size:Int)<=9223372036854775807:=by have:=HGE.out f (List.mem_of_getElem? hLi);rw[cH,cH];omega
     refine fx fun C=>?_
     go_wp2_with (refine stq ?_;clear C;intro w F C)
     refine(xX (D:=⟨room,L,false,armed,steps⟩) (F.ins fun _ h=>h.2) ⟨f.name,f.all++bs,f.kept⟩ hf).mono ?_;rintro e w ⟨a1,c1,rfl,hs1,hb⟩;replace F:=F.next hb hs1;clear C hs1 hb;generalize bL ⟨f.name,f.all++bs,f.kept⟩ L=L1 at *
     refine fx fun C=>?_
     go_wp2_with (refine stq ?_;clear C;intro w F C)
     refine(xV ⟨room,L1,false,armed,steps⟩ a1 c1 w hs ha).mono ?_;rintro e w ⟨rfl,hb⟩;replace F:=(F.call hb).imp fun _ h=>And.intro h.1.step h.2;clear C;simp only at F ⊢;generalize bP ⟨room,L1,false,armed,steps⟩=D1 at *
     by_cases h0:armed=0
     ·replace HV:=hid (HV.out.trans (by rw[if_pos h0]));simp only[h0,ne_eq,not_true_eq_false,decide_false,dv];exact ed Tryz.results33
     ·replace HV:=hid (HV.out.trans (by rw[if_neg h0]));simp only[decide_eq_true h0,dv];exact ed Tryz.results33
 ·have HV:=hid (aGH (D:=⟨room,L,true,armed,steps⟩) (n:=n) (bs:=bs) rfl);go_enter Tryz.func33,Tryz.ntmps33;exact ed Tryz.results33
end Go.Proofs.YtjdglpcnkiioeaaGreat
namespace Go.Proofs.YtjdglpcnkiioeaaGreat
open Go.RowKit Go.Maps Go.Proofs.Own Go.Shelf

theorem nR {a b c:ByteArray}(h:dS a b=true)(g:dS b c=true):dS a c=true:=WideShapes.bytes_trans _ _ _ h g
theorem oS {f:aJ}(h:isW f=true):∀ {L:List aJ},bQ L->(insFile f L).filter isW=insFile f (L.filter isW)
 | [],_=>by simp[insFile,h]
 | g::r,hr=>by
  obtain⟨h1,h2⟩:=List.pairwise_cons.1 hr;have ih:=oS h h2;by_cases hl:dS f.name g.name=true
  ·have hi:∀M:List aJ,(∀x ∈ M,dS f.name x.name=true)->insFile f M=f::M:=fun M hM=>by
    cases M with
    | nil=>rfl
    | cons x s =>
     unfold insFile;rw[if_pos (hM x (List.mem_cons_self ..))]
   rw[hi (g::r) (fun x hx=>by
    rcases List.mem_cons.1 hx with rfl|hx
    ·exact hl
    ·exact nR hl (h1 x hx)),List.filter_cons_of_pos h,hi _ (fun x hx=>by
    rcases List.mem_cons.1 (List.mem_filter.1 hx).1 with rfl|hx
    ·exact hl
    ·exact nR hl (h1 x hx))]
  ·have hi:∀M:List aJ,insFile f (g::M)=g::insFile f M:=fun M=>by
    conv=>lhs;unfold insFile
    rw[if_neg hl]
   rw[hi];by_cases hg:isW g=true
   ·rw[List.filter_cons_of_pos hg,List.filter_cons_of_pos hg,hi,ih]
   ·rw[List.filter_cons_of_neg hg,List.filter_cons_of_neg hg,ih]
theorem oT {f:aJ}(h:isW f=true){L:List aJ}(hr:bQ L):(bL f L).filter isW=bL f (L.filter isW):=by
 unfold bL;rw[oS (L:=bH f.name L) h (List.Pairwise.sublist (List.filter_sublist ..) hr),wS]
theorem uH {n:ByteArray}(h:bB (aP n)≠0)(L:List aJ):aE n (L.filter isW)=aE n L:=by
 unfold aE;rw[List.find?_filter]
 congr 1
 funext g
 by_cases e:g.name=n
 ·have:isW g=true:=by unfold isW;rw[e];exact decide_eq_true h
  simp[this]
 ·simp[e]
structure Pc where
 f:Nat
 es:List cU
 k:Nat
def Pc.w (p:Pc):List Nat:=fF p.f p.es
def Pc.file (p:Pc):aJ:=⟨aK p.f,p.w,p.k⟩
def Pc.wf (p:Pc):WF:=⟨p.f,p.es.length,p.w.length⟩
def fL (P:List Pc):List cU:=P.flatMap Pc.es
def Chain:Nat->List Pc->Prop
 | _,[]=>True
 | n,p::r=>p.f=n/\Chain (n+p.es.length) r
theorem gX (A B:List Pc):fL (A++B)=fL A++fL B:=List.flatMap_append
theorem jL (p:Pc):fL [p]=p.es:=List.append_nil _
theorem kK (p:Pc)(r:List Pc):fL (p::r)=p.es++fL r:=rfl
theorem Chain.app {A B:List Pc}:∀ {n:Nat},Chain n (A++B) ↔ Chain n A/\Chain (n+(fL A).length) B:=by
 induction A with
 | nil=>intro n;simp[Chain,fL]
 | cons p r ih =>
  intro n;simp only[List.cons_append,Chain,ih,kK,List.length_append,Nat.add_assoc,and_assoc]
theorem Chain.range {P:List Pc}:∀ {n:Nat},Chain n P -> ∀p ∈ P,n<=p.f/\p.f+p.es.length<=n+(fL P).length:=by
 induction P with
 | nil=>intro n _ p hp;cases hp
 | cons q r ih =>
  intro n h p hp;rw[kK,List.length_append];rcases List.mem_cons.1 hp with rfl|hp
  ·have:=h.1;omega
  ·have:=ih h.2 p hp;omega
structure fN (D:aA)(L:aQ)(P:List Pc):Prop where
 fil:jA D=P.map Pc.file
 fs:L.fs=P.map Pc.wf
 es:L.es=fL P
 ch:Chain (L.b+1) P
 ok:∀e ∈ L.es,e.ok
 hi:L.b+L.es.length<=H59
 full:∀p ∈ P.dropLast,p.k=p.w.length/\1024<=p.w.length/\p.es ≠ []
 safe:L.safe<=L.es.length
 kept:∀A z,P=A ++ [z]->(fL A).length<=L.safe/\((z.k=0/\L.safe=(fL A).length/\z.es ≠ []) \/ ∃j,j<=z.es.length/\L.safe<=(fL A).length+j/\z.k=(fF z.f (z.es.take j)).length)
 lo:L.b<H59 /\ ∀p ∈ P,p.f<=H59

theorem aBp {a b:ByteArray}(h:a≠b):dS a b=true\/dS b a=true:=by
 refine WideAt.bytes_total _ _ fun e=>h ?_;cases a with
 | mk x=>cases b with
  | mk y =>
   simp only at e;rw[Array.toList_inj.1 e]
theorem bQ.del {L:List aJ}(h:bQ L)(n:ByteArray):bQ (bH n L):=List.Pairwise.sublist (List.filter_sublist ..) h
theorem bQ.ins {f:aJ}:∀ {L:List aJ},bQ L->(∀g ∈ L,¬g.name=f.name)->bQ (insFile f L)
 | [],_,_=>List.pairwise_singleton _ _
 | g::r,h,hn=>by
  obtain⟨h1,h2⟩:=List.pairwise_cons.1 h;unfold insFile;by_cases hl:dS f.name g.name=true
  ·rw[if_pos hl];refine List.pairwise_cons.2 ⟨fun x hx=>?_,h⟩;rcases List.mem_cons.1 hx with rfl|hx
   ·exact hl
   ·exact nR hl (h1 x hx)
  ·rw[if_neg hl];refine List.pairwise_cons.2 ⟨fun x hx=>?_,bQ.ins h2 fun x hx=>hn x (List.mem_cons_of_mem _ hx)⟩;rcases aBl.1 hx with rfl|hx
   ·rcases aBp (hn g (List.mem_cons_self ..)) with e|e
    ·exact e
    ·exact absurd e hl
   ·exact h1 x hx
theorem bQ.put {L:List aJ}(h:bQ L)(f:aJ):bQ (bL f L):=bQ.ins (h.del _) fun _g hg=>(jE.1 hg).2
theorem aCL {D:aA}(h:bQ D.files):bQ (jA D):=List.Pairwise.sublist (List.filter_sublist ..) h
theorem aBw {D:aA}{n:ByteArray}{f:aJ}(hd:D.down=false)(hf:aE n D.files=some f) :
  ((removeD D n).2=50/\(removeD D n).1.down=true/\(removeD D n).1.files=D.files)\/((removeD D n).2=0/\(removeD D n).1.down=false/\(removeD D n).1.files=bH n D.files):=by
 unfold removeD;rw[hf];simp only;rw[if_neg (by rw[hd];decide)];by_cases ha:D.armed=0
 ·rw[if_pos ha];exact .inl ⟨rfl,(oB hd).2 ha,bE D⟩
 ·rw[if_neg ha];exact .inr ⟨rfl,sO hd ha,rfl⟩
theorem aEg {D:aA}{n:ByteArray}{f:aJ}(hd:D.down=false)(hf:aE n D.files=some f) :
  ((syncD D n).2=50/\(syncD D n).1.down=true/\(syncD D n).1.files=D.files)\/((syncD D n).2=0/\(syncD D n).1.down=false/\(syncD D n).1.files=bL { f with kept:=f.all.length } D.files):=by
 unfold syncD;rw[hf];simp only;rw[if_neg (by rw[hd];decide)];by_cases ha:D.armed=0
 ·rw[if_pos ha];exact .inl ⟨rfl,(oB hd).2 ha,bE D⟩
 ·rw[if_neg ha];exact .inr ⟨rfl,sO hd ha,rfl⟩
theorem rM {D:aA}{n:ByteArray}{b:List Nat}(hd:D.down=false) :
  ((aV D n b).2≠0/\(aV D n b).1=D)\/(aV D n b).1.files=bL { cW D n with all:=(cW D n).all++b } D.files/\(((aV D n b).2=50/\(aV D n b).1.down=true)\/((aV D n b).2=0/\(aV D n b).1.down=false)):=by
 unfold aV;by_cases h:mF D n b≠0
 ·rw[if_pos h];exact .inl ⟨h,rfl⟩
 ·rw[if_neg h];refine .inr ⟨bE _,?_⟩;show (gJ D=50/\(bP (lL D n b)).down=true)\/(gJ D=0/\(bP (lL D n b)).down=false);have h1:(lL D n b).down=false:=hd;have h2:(lL D n b).armed=D.armed:=rfl;unfold gJ;by_cases ha:D.armed=0
  ·rw[if_pos ha];exact .inl ⟨rfl,(oB h1).2 (h2.trans ha)⟩
  ·rw[if_neg ha];exact .inr ⟨rfl,sO h1 (fun e=>ha (h2.symm.trans e))⟩
theorem aAy {p:Pc}(h:1<=p.f/\p.f<1152921504606846976):isW p.file=true:=by
 unfold isW;show decide (bB (aP (aK p.f))≠0)=true;rw[uK h.1 h.2];exact decide_eq_true (by omega)
theorem xC {n:Nat}(h:1<=n/\n<1152921504606846976):bB (aP (aK n))≠0:=by
 rw[uK h.1 h.2];omega
theorem aBk {D:aA}{A B:List Pc}{z:Pc}(hr:bQ D.files)(hf:jA D=(A++z::B).map Pc.file):bQ (A.map Pc.file++z.file::B.map Pc.file):=by
 have:=aCL hr;rw[hf]at this
 simpa using this
theorem xI {D:aA}{A B:List Pc}{z:Pc}(hr:bQ D.files)(hf:jA D=(A++z::B).map Pc.file)(hz:1<=z.f/\z.f<1152921504606846976):aE (aK z.f) D.files=some z.file:=by
 rw[<- uH (xC hz)];show aE z.file.name (jA D)=_;rw[hf]
 simpa using wV (aBk hr hf)
theorem aIM {D:aA}{A B:List Pc}{z:Pc}(hr:bQ D.files)(hf:jA D=(A++z::B).map Pc.file):(bH (aK z.f) D.files).filter isW=(A++B).map Pc.file:=by
 rw[wS];show bH z.file.name (jA D)=_;rw[hf]
 simpa using aED (aBk hr hf)
theorem aEP {D:aA}{A B:List Pc}{z z':Pc}(hr:bQ D.files)(hf:jA D=(A++z::B).map Pc.file)(hz:1<=z.f/\z.f<1152921504606846976)(he:z'.f=z.f):(bL z'.file D.files).filter isW=(A++z'::B).map Pc.file:=by
 rw[oT (aAy (by rw[he];exact hz)) hr];show bL z'.file (jA D)=_;rw[hf];have:=aIZ (f':=z'.file) (aBk hr hf) (by show aK z'.f=aK z.f;rw[he])
 simpa using this
theorem aIN {D:aA}{P:List Pc}{z:Pc}(hr:bQ D.files)(hf:jA D=P.map Pc.file)(hz:1<=z.f/\z.f<1152921504606846976)(hl:∀p ∈ P,1<=p.f/\p.f<z.f) :
  aE (aK z.f) D.files=none/\(bL z.file D.files).filter isW=(P ++ [z]).map Pc.file:=by
 have hlt:∀g ∈ P.map Pc.file,dS g.name z.file.name=true:=fun g hg=>by
  obtain⟨p,hp,rfl⟩:=List.mem_map.1 hg;have:=hl p hp;exact aDN (by omega) (by omega) hz.2
 have hne:∀g ∈ P.map Pc.file,¬g.name=z.file.name:=fun g hg=>mW (hlt g hg);refine⟨?_,?_⟩
 ·rw[<- uH (xC hz)];show aE z.file.name (jA D)=none;rw[hf];exact aAi hne
 ·rw[oT (aAy hz) hr];show insFile z.file (bH z.file.name (jA D))=_;rw[hf];have hd:bH z.file.name (P.map Pc.file)=P.map Pc.file:=by
   unfold bH;exact List.filter_eq_self.2 fun g hg=>by simpa using hne g hg
  rw[hd];have:=aBg (f:=z.file) (A:=P.map Pc.file) (B:=[]) hlt (by intro g hg;cases hg)
  simpa using this

theorem fN.same {D D':aA}{L:aQ}{P:List Pc}(h:fN D L P)(hf:D'.files=D.files):fN D' L P :=
 ⟨by have:=h.fil;unfold jA at this ⊢;rw[hf];exact this,h.fs,h.es,h.ch,h.ok,h.hi,h.full,h.safe,h.kept,h.lo⟩
theorem aHl {b:Nat}{A:List Pc}{z z':Pc}(h:b<H59 /\ ∀p ∈ A ++ [z],p.f<=H59)(e:z'.f=z.f):b<H59 /\ ∀p ∈ A ++ [z'],p.f<=H59:=by
 refine⟨h.1,fun p hp=>?_⟩;rcases List.mem_append.1 hp with hp|hp
 ·exact h.2 p (List.mem_append_left _ hp)
 ·obtain rfl:=List.mem_singleton.1 hp;rw[e];exact h.2 z (List.mem_append_right _ (List.mem_singleton_self z))
theorem fN.range {D:aA}{L:aQ}{P:List Pc}(h:fN D L P):∀p ∈ P,1<=p.f/\p.f<1152921504606846976/\L.b+1<=p.f/\p.f+p.es.length<=L.last+1:=by
 intro p hp;have h1:=h.ch.range p hp;have h2:=h.hi;have h3:=h.es;rw[<- h3]at h1;unfold H59 at h2;unfold aQ.last;omega
theorem fN.aCg {D:aA}{L:aQ}{P:List Pc}(h:fN D L P){p:Pc}(hp:p ∈ P):1<=p.f/\p.f<1152921504606846976:=let ⟨a,b,_⟩:=h.range p hp;⟨a,b⟩
theorem aBc {D:aA}{L:aQ}{A:List Pc}{z:Pc}(h:fN D L (A ++ [z])):L.fs.getLast? = some z.wf/\L.fs.dropLast=A.map Pc.wf:=by
 rw[h.fs,List.map_append];simp
theorem oA {P:List Pc}(h:P ≠ []):∃A z,P=A ++ [z]:=⟨P.dropLast,P.getLast h,(List.dropLast_concat_getLast h).symm⟩
theorem aCZ {D:aA}{L:aQ}{P:List Pc}(h:fN D L P)(hd:D.down=false)(hr:bQ D.files) :
  ((cB D L).2.2=50/\(cB D L).1.down=true/\(cB D L).2.1=L/\fN (cB D L).1 L P) \/
  ((cB D L).2.2 = 0 /\ (cB D L).1.down = false /\ bQ (cB D L).1.files /\ (cB D L).2.1 = { L with safe := L.es.length } /\
    ∃P',fN (cB D L).1 { L with safe:=L.es.length } P'/\P'.map Pc.wf=P.map Pc.wf /\ ∀p ∈ P',p.k=p.w.length):=by
 unfold cB;by_cases hs:L.safe=L.es.length
 ·rw[if_pos hs];have hL:L = { L with safe:=L.es.length }:=by rw[<- hs]
  refine .inr ⟨rfl,hd,hr,hL,P,by rw[<- hL];exact h,rfl,?_⟩;by_cases hP:P = []
  ·subst hP;intro p hp;cases hp
  ·obtain⟨A,z,rfl⟩:=oA hP;have hfull:∀p ∈ A,p.k=p.w.length/\1024<=p.w.length/\p.es ≠ []:=by have:=h.full;rwa [List.dropLast_concat]at this
   have hel:L.es.length=(fL A).length+z.es.length:=by rw[h.es,gX,jL,List.length_append]
   intro p hp;rcases List.mem_append.1 hp with hp|hp
   ·exact(hfull p hp).1
   ·obtain rfl:=List.mem_singleton.1 hp;obtain⟨_,⟨h1,h2,h3⟩|⟨j,h1,h2,h3⟩⟩:=h.kept A p rfl
    ·exact absurd (List.length_eq_zero_iff.1 (by omega)) h3
    ·have hj:j=p.es.length:=by omega
     rw[h3,hj,List.take_length];rfl
 ·rw[if_neg hs];have hP:P ≠ []:=by
   rintro rfl;have h1:=h.es;have h2:=h.safe;rw[h1]at h2 hs;exact hs (Nat.le_antisymm h2 (Nat.zero_le _))
  obtain⟨A,z,rfl⟩:=oA hP;have hz:z ∈ A ++ [z]:=List.mem_append_right _ (List.mem_singleton_self z);have hf:=xI hr h.fil (h.aCg hz);have hg:=aBc h;have hfull:∀p ∈ A,p.k=p.w.length/\1024<=p.w.length/\p.es ≠ []:=by have:=h.full;rwa [List.dropLast_concat]at this
  rw[hg.1];simp only;rcases aEg hd hf with ⟨h1,h2,h3⟩|⟨h1,h2,h3⟩
  ·have h1':(syncD D (aK z.wf.f)).2=50:=h1;rw[if_pos (by rw[h1'];decide)];exact .inl ⟨h1',h2,rfl,h.same h3⟩
  ·have h1':(syncD D (aK z.wf.f)).2=0:=h1;rw[if_neg (by rw[h1'];decide)];have hwf:(A ++ [(⟨z.f,z.es,z.w.length⟩:Pc)]).map Pc.wf=(A ++ [z]).map Pc.wf:=by
    rw[List.map_append,List.map_append];rfl
   have hes:fL (A ++ [(⟨z.f,z.es,z.w.length⟩:Pc)])=fL (A ++ [z]):=by
    rw[gX,gX];rfl
   refine .inr ⟨rfl,h2,?_,rfl,A ++ [⟨z.f,z.es,z.w.length⟩],⟨?_,?_,?_,?_,h.ok,h.hi,?_,Nat.le_refl _,?_,aHl h.lo rfl⟩,hwf,?_⟩
   ·show bQ (syncD D (aK z.f)).1.files;rw[h3];exact hr.put _
   ·show (syncD D (aK z.f)).1.files.filter isW=_;rw[h3];exact aEP (z':=⟨z.f,z.es,z.w.length⟩) hr h.fil (h.aCg hz) rfl
   ·rw[hwf];exact h.fs
   ·rw[hes];exact h.es
   ·have:=Chain.app.1 h.ch;exact Chain.app.2 ⟨this.1,this.2.1,trivial⟩
   ·rw[List.dropLast_concat];exact hfull
   ·intro B y e;obtain⟨rfl,e2⟩:=List.append_inj' e rfl;obtain rfl:=List.singleton_inj.1 e2;have hel:L.es.length=(fL A).length+z.es.length:=by rw[h.es,gX,jL,List.length_append]
    refine⟨by show (fL A).length<=L.es.length;omega,.inr ⟨z.es.length,Nat.le_refl _,by show L.es.length<=(fL A).length+z.es.length;omega,?_⟩⟩;show z.w.length=(fF z.f (z.es.take z.es.length)).length;rw[List.take_length];rfl
   ·intro p hp;rcases List.mem_append.1 hp with hp|hp
    ·exact(hfull p hp).1
    ·obtain rfl:=List.mem_singleton.1 hp;rfl

def aA3 (r:aA × aQ × Nat):Prop:=r.1.down=false/\bQ r.1.files /\ ∃P,fN r.1 r.2.1 P
def aIm (ms:List cU)(r:aA × aQ × Nat):Prop:=r.1.down=true/\r.2.2=50 /\ ∃L P,fN r.1 L P/\L.b=r.2.1.b/\L.safe=r.2.1.safe/\(L.es=r.2.1.es\/L.es=r.2.1.es++ms)
theorem nP:∀(a b:List cU) (i:Nat),linesW i (a++b)=linesW i a++linesW (i+a.length) b
 | [],b,i=>rfl
 | e::a,b,i=>by
  show jN i e++linesW (i+1) (a++b)=(jN i e++linesW (i+1) a)++linesW (i+(a.length+1)) b;rw[nP a b (i+1),List.append_assoc,show i+1+a.length=i+(a.length+1) by omega]
theorem aHQ (f:Nat)(a b:List cU):fF f (a++b)=fF f a++linesW (f+a.length) b:=by
 unfold fF;rw[nP,List.append_assoc]
theorem aCb {n:Nat}(h:n<=1152921504606846976):(iW n).length<=28/\8<=(iW n).length:=by
 have:=jP (n:=n) (by omega);unfold iW;rw[lB];omega
theorem aHh {n m:Nat}(hn:n<=H59)(h:¬uN n<m):n+m<=H59:=by
 unfold uN H59 at *
 omega
theorem aIo {D:aA}{L:aQ}{A:List Pc}{z:Pc}(h:fN D L (A ++ [z]))(hd:D.down=false)(hr:bQ D.files){ms:List cU}(hok:∀e ∈ ms,e.ok)(hi:L.last+ms.length<=H59) :
  aA3 (aGF D L z.wf ms)\/aIm ms (aGF D L z.wf ms):=by
 have hz:z ∈ A ++ [z]:=List.mem_append_right _ (List.mem_singleton_self z);have hf:=xI hr h.fil (h.aCg hz);have hg:=aBc h;have hel:L.es.length=(fL A).length+z.es.length:=by rw[h.es,gX,jL,List.length_append]
 have hzf:z.f=L.b+1+(fL A).length:=(Chain.app.1 h.ch).2.1;have hnx:z.f+z.es.length=L.last+1:=by unfold aQ.last;omega
 have hw:z.w++linesW (L.last+1) ms=fF z.f (z.es++ms):=by
  rw[aHQ,hnx];rfl
 have hes:fL (A ++ [(⟨z.f,z.es++ms,z.k⟩:Pc)])=L.es++ms:=by
  rw[gX,jL,h.es,gX,jL,List.append_assoc]
 have hnew:∀ {D':aA},D'.files=bL { cW D (aK z.f) with all:=(cW D (aK z.f)).all++linesW (L.last+1) ms } D.files ->
   fN D' ⟨L.b,L.es++ms,L.fs.dropLast ++ [⟨z.f,z.es.length+ms.length,z.w.length+(linesW (L.last+1) ms).length⟩],L.safe⟩ (A ++ [⟨z.f,z.es++ms,z.k⟩]):=by
  intro D' hD;refine⟨?_,?_,hes.symm,?_,?_,?_,?_,?_,?_,aHl h.lo rfl⟩
  ·unfold jA;rw[hD,eI hf];have:=aEP (z':=⟨z.f,z.es++ms,z.k⟩) hr h.fil (h.aCg hz) rfl;rw[<- this]
   congr 2
   show ({ name:=aK z.f,all:=z.w++linesW (L.last+1) ms,kept:=z.k }:aJ)=⟨aK z.f,fF z.f (z.es++ms),z.k⟩;rw[hw]
  ·show L.fs.dropLast++_=_;rw[hg.2,List.map_append]
   congr 1
   show [_] = [_]
   congr 1
   show (⟨z.f,z.es.length+ms.length,z.w.length+(linesW (L.last+1) ms).length⟩:WF)=⟨z.f,(z.es++ms).length,(fF z.f (z.es++ms)).length⟩;rw[<- hw,List.length_append,List.length_append]
  ·have:=Chain.app.1 h.ch;exact Chain.app.2 ⟨this.1,this.2.1,trivial⟩
  ·intro e he;rcases List.mem_append.1 he with he|he
   ·exact h.ok e he
   ·exact hok e he
  ·show L.b+(L.es++ms).length<=H59;rw[List.length_append];unfold aQ.last at hi;omega
  ·rw[List.dropLast_concat];have:=h.full
   rwa [List.dropLast_concat]at this
  ·show L.safe<=(L.es++ms).length;rw[List.length_append];have:=h.safe;omega
  ·intro B y e;obtain⟨rfl,e2⟩:=List.append_inj' e rfl;obtain rfl:=List.singleton_inj.1 e2;obtain⟨h1,h2⟩:=h.kept A z rfl;refine⟨h1,?_⟩;rcases h2 with ⟨k0,k1,k2⟩|⟨j,j1,j2,j3⟩
   ·exact .inl ⟨k0,k1,fun e=>k2 (List.append_eq_nil_iff.1 e).1⟩
   ·refine .inr ⟨j,?_,j2,?_⟩
    ·show j<=(z.es++ms).length;rw[List.length_append];omega
    ·show z.k=(fF z.f ((z.es++ms).take j)).length;rw[List.take_append_of_le_length j1];exact j3
 unfold aGF;rcases rM (n:=aK z.f) (b:=linesW (L.last+1) ms) hd with ⟨h1,h2⟩|⟨h1,⟨h2,h3⟩|⟨h2,h3⟩⟩
 ·rw[if_pos (show (aV D (aK z.wf.f) (linesW (L.last+1) ms)).2≠0 from h1)];refine .inl ⟨?_,?_,A ++ [z],?_⟩
  ·show (aV D (aK z.f) _).1.down=false;rw[h2];exact hd
  ·show bQ (aV D (aK z.f) _).1.files;rw[h2];exact hr
  ·show fN (aV D (aK z.f) _).1 L (A ++ [z]);rw[h2];exact h
 ·rw[if_pos (show (aV D (aK z.wf.f) (linesW (L.last+1) ms)).2≠0 by rw[show (aV D (aK z.wf.f) (linesW (L.last+1) ms)).2=50 from h2];decide)];exact .inr ⟨h3,h2,_,_,hnew h1,rfl,rfl,.inr rfl⟩
 ·rw[if_neg (show ¬(aV D (aK z.wf.f) (linesW (L.last+1) ms)).2≠0 by rw[show (aV D (aK z.wf.f) (linesW (L.last+1) ms)).2=0 from h2];decide)];refine .inl ⟨h3,?_,_,hnew h1⟩;show bQ (aV D (aK z.f) _).1.files;rw[h1];exact hr.put _
theorem aEU {D:aA}{L:aQ}{P:List Pc}(h:fN D L P)(hd:D.down=false)(hr:bQ D.files){ms:List cU}(hok:∀e ∈ ms,e.ok)(hi:L.last+ms.length<=H59)(hne:ms ≠ [])(hP:∀p ∈ P,1024<=p.w.length/\p.es ≠ []) :
  aA3 (aBq D L ms)\/aIm ms (aBq D L ms):=by
 unfold aBq;rcases aCZ h hd hr with ⟨h1,h2,h3,h4⟩|⟨h1,h2,h3,h4,P',h5,h6,h7⟩
 ·rw[if_pos (by rw[h1];decide)];exact .inr ⟨h2,h1,L,P,h4,by rw[h3],by rw[h3],.inl (by rw[h3])⟩
 ·rw[if_neg (by rw[h1];decide)];have hP':∀p ∈ P',p.k=p.w.length/\1024<=p.w.length/\p.es ≠ []:=by
   intro p hp;have hm:p.wf ∈ P.map Pc.wf:=by rw[<- h6];exact List.mem_map_of_mem hp
   obtain⟨q,hq,e⟩:=List.mem_map.1 hm;obtain⟨q1,q2⟩:=hP q hq;have e1:q.es.length=p.es.length:=congrArg WF.m e;have e2:q.w.length=p.w.length:=congrArg WF.s e;refine⟨h7 p hp,by omega,fun e3=>q2 (List.length_eq_zero_iff.1 ?_)⟩;rw[e1,e3];rfl
  have hlast:∀p ∈ P',1<=p.f/\p.f<L.last+1:=by
   intro p hp;have a:=h5.range p hp;have b:=List.length_pos_iff.2 (hP' p hp).2.2;have c:p.f+p.es.length<=L.last+1:=a.2.2.2;omega
  have hn60:1<=L.last+1/\L.last+1<1152921504606846976:=by unfold H59 at hi;omega
  obtain⟨g1,g2⟩:=aIN (z:=⟨L.last+1,ms,0⟩) h3 h5.fil hn60 hlast;have hnew:∀ {D':aA},D'.files=bL { cW (cB D L).1 (aK (L.last+1)) with all:=(cW (cB D L).1 (aK (L.last+1))).all++fF (L.last+1) ms } (cB D L).1.files ->
    fN D' ⟨L.b,L.es++ms,L.fs ++ [⟨L.last+1,ms.length,(fF (L.last+1) ms).length⟩],(cB D L).2.1.safe⟩ (P' ++ [⟨L.last+1,ms,0⟩]):=by
   intro D' hD;have hsafe:(cB D L).2.1.safe=L.es.length:=by rw[h4]
   have hesP:L.es=fL P':=h5.es;refine⟨?_,?_,?_,?_,?_,?_,?_,?_,?_,h.lo.1,fun p hp=>?_⟩
   rotate_right
   ·rcases List.mem_append.1 hp with hp|hp
    ·exact h5.lo.2 p hp
    ·obtain rfl:=List.mem_singleton.1 hp;have:=List.length_pos_iff.2 hne;show L.last+1<=H59;omega
   ·unfold jA;rw[hD,tE g1];exact g2
   ·show L.fs++_=_;rw[List.map_append,h6,h.fs];rfl
   ·show L.es++ms=_;rw[gX,jL,<- hesP]
   ·refine Chain.app.2 ⟨h5.ch,?_,trivial⟩;show L.last+1=L.b+1+(fL P').length;rw[<- hesP];unfold aQ.last;omega
   ·intro e he;rcases List.mem_append.1 he with he|he
    ·exact h.ok e he
    ·exact hok e he
   ·show L.b+(L.es++ms).length<=H59;rw[List.length_append];unfold aQ.last at hi;omega
   ·rw[List.dropLast_concat];exact hP'
   ·show (cB D L).2.1.safe<=(L.es++ms).length;rw[hsafe,List.length_append];omega
   ·intro B y e;obtain⟨rfl,e2⟩:=List.append_inj' e rfl;obtain rfl:=List.singleton_inj.1 e2;show (fL P').length<=(cB D L).2.1.safe/\_;rw[hsafe];exact⟨by rw[hesP];exact Nat.le_refl _,.inl ⟨rfl,by show L.es.length=_;rw[hesP],hne⟩⟩
  rcases rM (n:=aK (L.last+1)) (b:=fF (L.last+1) ms) h2 with ⟨k1,k2⟩|⟨k1,⟨k2,k3⟩|⟨k2,k3⟩⟩
  ·rw[if_pos k1];refine .inl ⟨?_,?_,P',?_⟩
   ·show (aV (cB D L).1 _ _).1.down=false;rw[k2];exact h2
   ·show bQ (aV (cB D L).1 _ _).1.files;rw[k2];exact h3
   ·show fN (aV (cB D L).1 _ _).1 (cB D L).2.1 P';rw[k2,h4];exact h5
  ·rw[if_pos (by rw[k2];decide)];exact .inr ⟨k3,k2,_,_,hnew k1,by show L.b=(cB D L).2.1.b;rw[h4],rfl,.inr (by show L.es++ms=(cB D L).2.1.es++ms;rw[h4])⟩
  ·rw[if_neg (by rw[k2];decide)];refine .inl ⟨k3,?_,_,hnew k1⟩;show bQ (aV (cB D L).1 _ _).1.files;rw[k1];exact h3.put _
theorem wG {D:aA}{L:aQ}{P:List Pc}(h:fN D L P)(hd:D.down=false)(hr:bQ D.files)(ms:List cU) :
  aA3 (bY D L ms)\/aIm ms (bY D L ms):=by
 have hsame:∀e,aA3 (D,L,e):=fun e=>⟨hd,hr,P,h⟩;unfold bY;by_cases hok:∀e ∈ ms,e.ok
 ·rw[if_neg (by simpa using hok)];by_cases hl:uN L.last<ms.length
  ·rw[if_pos hl];exact .inl (hsame _)
  ·rw[if_neg hl];have hi:L.last+ms.length<=H59:=aHh h.hi hl;by_cases hne:ms = []
   ·rw[if_pos hne];exact .inl (hsame _)
   ·rw[if_neg hne];by_cases hP:P = []
    ·subst hP;have hfs:L.fs = []:=h.fs;rw[hfs];exact aEU h hd hr hok hi hne fun p hp=>by cases hp
    ·obtain⟨A,z,rfl⟩:=oA hP;rw[(aBc h).1];simp only;by_cases hs:z.wf.s<1024
     ·rw[if_pos hs];exact aIo h hd hr hok hi
     ·rw[if_neg hs];refine aEU h hd hr hok hi hne fun p hp=>?_;have hfull:∀p ∈ A,p.k=p.w.length/\1024<=p.w.length/\p.es ≠ []:=by have:=h.full;rwa [List.dropLast_concat]at this
      rcases List.mem_append.1 hp with hp|hp
      ·exact(hfull p hp).2
      ·obtain rfl:=List.mem_singleton.1 hp;have hs':1024<=p.w.length:=by
        show 1024<=p.wf.s;omega
       refine⟨hs',fun e=>?_⟩;have h1:=(h.aCg (List.mem_append_right A (List.mem_singleton_self p))).2;have h2:=aCb (n:=p.f) (by omega);have h3:p.w=iW p.f:=by
        unfold Pc.w fF;rw[e];exact List.append_nil _
       rw[h3]at hs';omega
 ·rw[if_pos (by simpa using hok)];exact .inl (hsame _)

theorem aJh {D:aA}{L:aQ}{P:List Pc}(h:fN D L P)(hd:D.down=false)(hr:bQ D.files):aA3 (cB D L)\/aIm [] (cB D L):=by
 rcases aCZ h hd hr with ⟨h1,h2,h3,h4⟩|⟨h1,h2,h3,h4,P',h5,_⟩
 ·exact .inr ⟨h2,h1,L,P,h4,by rw[h3],by rw[h3],.inl (by rw[h3])⟩
 ·exact .inl ⟨h2,h3,P',by rw[h4];exact h5⟩

def Rest (f:Nat)(es:List cU)(m:Nat)(M:List aJ):Prop :=
 (m=0/\M = []) \/ ∃R,M = [⟨aK f,R,R.length⟩]/\((m=0/\cS R≠0) \/ ∃j R',m<=j/\j<=es.length/\R=fF f (es.take j)++R'/\cS R'≠0)

def LB (b:Nat)(B:List Pc):aQ:=⟨if B = [] then 0 else b,fL B,B.map Pc.wf,0⟩
def LO (b:Nat)(B:List Pc):aQ:=⟨b,fL B,B.map Pc.wf,(fL B).length⟩
def aIn (p:Pc):Prop:=1<=p.f/\p.f<=H59/\(∀e ∈ p.es,e.ok)/\p.f+p.es.length<=H59+1
theorem aIn.aCg {p:Pc}(h:aIn p):1<=p.f/\p.f<1152921504606846976:=by
 have:=h.2.1;unfold H59 at this;exact⟨h.1,by omega⟩
theorem aIk (b:Nat)(B:List Pc)(h:B ≠ []):(LB b B).last=b+(fL B).length:=by
 unfold aQ.last LB;rw[if_neg h]
theorem aG2 {D:aA}{n:ByteArray}{f:aJ}(hd:D.down=false)(hf:aE n D.files=some f):bI D n=0:=by
 rw[fQ hf,if_neg (by rw[hd];decide)]
theorem aCK {D:aA}(h:Calm D){n:ByteArray}{f:aJ}(hf:aE n D.files=some f):(removeD D n).2=0/\Calm (removeD D n).1/\(removeD D n).1.files=bH n D.files:=by
 have hr:removeD D n=({ bP D with files:=bH n D.files },0):=by
  unfold removeD;rw[hf];simp only;rw[if_neg (by rw[h.1];decide),if_neg (by rw[h.2];decide)]
 rw[hr];exact⟨rfl,h.step _,rfl⟩
theorem yU {D:aA}(h:Calm D){n:ByteArray}{f:aJ}(hf:aE n D.files=some f):(syncD D n).2=0/\Calm (syncD D n).1/\(syncD D n).1.files=bL { f with kept:=f.all.length } D.files:=by
 have hr:syncD D n=({ bP D with files:=bL { f with kept:=f.all.length } D.files },0):=by
  unfold syncD;rw[hf];simp only;rw[if_neg (by rw[h.1];decide),if_neg (by rw[h.2];decide)]
 rw[hr];exact⟨rfl,h.step _,rfl⟩
theorem aFg {D:aA}(h:Calm D){n:ByteArray}{f:aJ}(hf:aE n D.files=some f){k:Nat}(hk:k<=f.all.length):(cutD D n k).2=0/\Calm (cutD D n k).1/\(cutD D n k).1.files=bL ⟨f.name,f.all.take k,min f.kept k⟩ D.files:=by
 have hr:cutD D n k=({ bP D with files:=bL ⟨f.name,f.all.take k,min f.kept k⟩ D.files },0):=by
  unfold cutD;rw[hf];simp only;rw[if_neg (by rw[h.1];decide),if_neg (by omega),if_neg (by rw[h.2];decide),Int.toNat_natCast]
 rw[hr];exact⟨rfl,h.step _,rfl⟩
theorem aFd (D:aA){b:Nat}(hb:b<H59)(P:List Pc):gE D (LB b P) b=(D,some (LO b P),0):=by
 unfold gE;by_cases hP:P = []
 ·subst hP;have h1:(LB b []).fs = []:=rfl;have hr:bA D (LB b []) b=(D,⟨b,[],[],0⟩,0):=by
   unfold bA;rw[if_neg (by omega)];rfl
  simp only[h1,true_or,if_true,hr];rw[if_neg (by decide),if_neg (by omega)];rfl
 ·have h1:¬(LB b P).fs = []:=fun e=>hP (List.map_eq_nil_iff.1 e);have h2:¬(LB b P).last<b:=by
   rw[aIk b P hP];omega
  have h3:(LB b P).b=b:=if_neg hP;have h4:¬((LB b P).fs = []\/(LB b P).last<b):=fun h=>h.elim h1 h2;simp only[if_neg h4];rw[if_neg (by decide),h3,if_neg (by omega)];unfold LO LB;rw[if_neg hP]
theorem aGw {D:aA}{b:Nat}{P:List Pc}(hb:b<H59)(hf:jA D=P.map Pc.file)(hch:Chain (b+1) P)(hok:∀p ∈ P,aIn p)(hk:∀p ∈ P,p.k=p.w.length)(hfull:∀p ∈ P.dropLast,1024<=p.w.length/\p.es ≠ [])(hhi:b+(fL P).length<=H59) :
  fN D (LO b P) P:=by
 refine⟨hf,rfl,rfl,hch,?_,hhi,?_,Nat.le_refl _,?_,hb,fun p hp=>(hok p hp).2.1⟩
 ·intro e he;obtain⟨p,hp,h⟩:=List.mem_flatMap.1 he;exact(hok p hp).2.2.1 e h
 ·intro p hp;exact⟨hk p ((List.dropLast_sublist P).subset hp),hfull p hp⟩
 ·intro A z e;subst e;show (fL A).length<=(fL (A ++ [z])).length/\_;rw[gX,jL,List.length_append];refine⟨by omega,.inr ⟨z.es.length,Nat.le_refl _,?_,?_⟩⟩
  ·show (fL (A ++ [z])).length<=_;rw[gX,jL,List.length_append];exact Nat.le_refl _
  ·rw[List.take_length,hk z (List.mem_append_right _ (List.mem_singleton_self z))];rfl
theorem aDR {D:aA}(hc:Calm D){b:Nat}(hb:b<H59){D1:aA}{L1:aQ}(hl:loadW (dH D) D (LB b [])=(D1,L1,0)):dP D b=xP D1 L1 b:=by
 have hl':loadW (dH D) D ⟨0,[],[],0⟩=(D1,L1,0):=hl;unfold dP;rw[if_neg (by rw[hc.1];decide),if_neg (by omega),hl',if_neg (fun h=>h rfl)]

theorem aIY {D:aA}{L:aQ}{P:List Pc}(h:fN D L P){p:Pc}(hp:p ∈ P):aIn p:=by
 obtain⟨h1,_,_,h4⟩:=h.range p hp;refine⟨h1,h.lo.2 p hp,fun e he=>h.ok e ?_,?_⟩
 ·rw[h.es];exact List.mem_flatMap.2 ⟨p,hp,he⟩
 ·have:=h.hi;unfold aQ.last at h4;omega
theorem aFQ {D:aA}(hc:Calm D){b:Nat}(hb:b<H59)(hl:jA D = []):dP D b=(D,some (LO b []),0)/\fN D (LO b []) []:=by
 refine⟨?_,aGw hb hl trivial (fun p hp=>by cases hp) (fun p hp=>by cases hp) (fun p hp=>by cases hp) (by show b+0<=H59;omega)⟩;have hn:dH D = []:=by
  unfold dH;rw[hl];rfl
 rw[aDR hc hb (D1:=D) (L1:=LB b []) (by rw[hn];rfl)];unfold xP;have hs:bU D (LB b [])=(D,0):=rfl;rw[hs,if_neg (fun h=>h rfl)];exact aFd D hb []
theorem nS (n:Nat):bB (aP (aK n))≠0\/(aK n).size=0:=by
 by_cases h:n<1\/1152921504606846976<=n
 ·right;unfold aK oY;rw[if_pos h];rfl
 ·left;exact xC (by omega)
inductive oE:aA->aA->Prop
 | remove (D:aA) (n:ByteArray):oE D (removeD D n).1
 | sync (D:aA) (n:ByteArray):oE D (syncD D n).1
 | cut (D:aA) (n:ByteArray) (k:Nat):oE D (cutD D n k).1
 | append (D:aA) (n:ByteArray) (b:List Nat) (h:bB (aP n)≠0\/n.size=0):oE D (aV D n b).1
inductive Reach:Nat->aA->aA->Prop
 | refl (n:Nat) (D:aA):Reach n D D
 | step {n:Nat} {D D1 D2:aA} (h:oE D D1) (g:Reach n D1 D2):Reach (n+1) D D2
theorem Reach.mono {n m:Nat}{D D':aA}(h:Reach n D D')(hm:n<=m):Reach m D D':=by
 induction h generalizing m with
 | refl=>exact .refl _ _
 | step h _ ih =>
  obtain⟨k,rfl⟩:∃k,m=k+1:=⟨m-1,by omega⟩;exact .step h (ih (by omega))
theorem Reach.trans {n m:Nat}{D D1 D2:aA}(h:Reach n D D1)(g:Reach m D1 D2):Reach (n+m) D D2:=by
 induction h with
 | refl=>exact g.mono (by omega)
 | @step k _ _ _ h _ ih =>
  rw[show k+1+m=k+m+1 by omega];exact .step h (ih g)
theorem Reach.one {D D1:aA}(h:oE D D1):Reach 1 D D1:=.step h (.refl _ _)
theorem aFW (D:aA)(L:aQ):Reach 1 D (popW D L).1:=by
 unfold popW;split
 ·exact .refl _ _
 ·split
  ·exact .one (.remove _ _)
  ·exact .one (.remove _ _)
theorem lG (D:aA)(L:aQ):Reach 1 D (cB D L).1:=by
 unfold cB;split
 ·exact .refl _ _
 ·split
  ·exact .refl _ _
  ·split
   ·exact .one (.sync _ _)
   ·exact .one (.sync _ _)
theorem rZ (D:aA)(L:aQ)(ms:List cU):Reach 2 D (bY D L ms).1:=by
 have hnew:Reach 2 D (aBq D L ms).1:=by
  unfold aBq;split
  ·exact(lG D L).mono (by omega)
  ·split
   ·exact(lG D L).trans (.one (.append _ _ _ (nS _)))
   ·exact(lG D L).trans (.one (.append _ _ _ (nS _)))
 unfold bY;split
 ·exact .refl _ _
 ·split
  ·exact .refl _ _
  ·split
   ·exact .refl _ _
   ·split
    ·exact hnew
    ·split
     ·unfold aGF;split
      ·exact(Reach.one (.append _ _ _ (nS _))).mono (by omega)
      ·exact(Reach.one (.append _ _ _ (nS _))).mono (by omega)
     ·exact hnew
end Go.Proofs.YtjdglpcnkiioeaaGreat
namespace Go.Proofs.YtjdglpcnkiioeaaGreat
open Go.RowKit Go.Maps Go.Proofs.Own

theorem rL {D:aA}(h:Calm D)(n:ByteArray)(b:List Nat):Calm (aV D n b).1:=by
 unfold aV;split
 ·exact h
 ·unfold Calm bP;rw[if_neg (by show ¬(lL D n b).armed=0;rw[show (lL D n b).armed=D.armed from rfl,h.2];decide),if_neg (by rw[show (lL D n b).armed=D.armed from rfl,h.2];decide)];exact h
end Go.Proofs.YtjdglpcnkiioeaaGreat
namespace Go.Proofs.YtjdglpcnkiioeaaGreat
open Go.RowKit Go.Maps Go.Proofs.Own Go.Shelf

theorem Calm.aEZ {D D':aA}(h:Calm D)(hs:oE D D'):Calm D':=by
 cases hs with
 | remove n =>
  unfold removeD;split
  ·rw[if_neg (by rw[h.1];decide),if_neg (by rw[h.2];decide)];exact h.step _
  ·exact h
 | sync n =>
  unfold syncD;split
  ·rw[if_neg (by rw[h.1];decide),if_neg (by rw[h.2];decide)];exact h.step _
  ·exact h
 | cut n k =>
  unfold cutD;split
  ·split
   ·exact h
   ·split
    ·exact h
    ·rw[if_neg (by rw[h.2];decide)];exact h.step _
  ·exact h
 | append n b _=>exact rL h n b
theorem aY.aEZ {D D':aA}(h:aY D)(hs:oE D D')(hn:D.steps+1<=1000000000):aY D'/\D'.steps<=D.steps+1:=by
 cases hs with
 | remove n=>exact h.remove n hn
 | sync n=>exact h.sync n hn
 | cut n k=>exact h.cut n k hn
 | append n b _=>exact h.append n b hn
theorem Reach.fX {n:Nat}{D D':aA}(hr:Reach n D D')(h:aY D)(hn:D.steps+n<=1000000000):aY D'/\D'.steps<=D.steps+n:=by
 induction hr with
 | refl=>exact⟨h,by omega⟩
 | step hs _ ih =>
  obtain⟨h1,h2⟩:=h.aEZ hs (by omega);obtain⟨h3,h4⟩:=ih h1 (by omega);exact⟨h3,by omega⟩
theorem oE.rising {D D':aA}(hs:oE D D')(h:bQ D.files):bQ D'.files:=by
 cases hs with
 | remove n =>
  unfold removeD;split
  ·split
   ·exact h
   ·split
    ·rw[show (bP D,50).1.files=D.files from bE D];exact h
    ·exact h.del n
  ·exact h
 | sync n =>
  unfold syncD;split
  ·rename_i f _;split
   ·exact h
   ·split
    ·rw[show (bP D,50).1.files=D.files from bE D];exact h
    ·exact h.put { f with kept:=f.all.length }
  ·exact h
 | cut n k =>
  unfold cutD;split
  ·rename_i f _;split
   ·exact h
   ·split
    ·exact h
    ·split
     ·rw[show (bP D,50).1.files=D.files from bE D];exact h
     ·exact h.put ⟨f.name,f.all.take (k:Int).toNat,min f.kept (k:Int).toNat⟩
  ·exact h
 | append n b _ =>
  unfold aV;split
  ·exact h
  ·rw[show (bP (lL D n b),gJ D).1.files=(lL D n b).files from bE _];exact h.put { cW D n with all:=(cW D n).all++b }
theorem fN.few {D:aA}{L:aQ}{P:List Pc}(h:fN D L P)(hg:aY D):L.fs.length<=128:=by
 have h1:L.fs.length=(jA D).length:=by rw[h.fs,h.fil,List.length_map,List.length_map]
 have h2:(jA D).length<=D.files.length:=List.length_filter_le ..;have h3:=hg.few;omega

def oW (fs:List WF):Nat:=(fs.map (·.m)).sum
theorem mV (a b:List WF):oW (a++b)=oW a+oW b:=by unfold oW;rw[List.map_append,List.sum_append]
theorem pV (f:WF):oW [f]=f.m:=by simp[oW]
structure LOk (L:aQ):Prop where
 nm:∀f ∈ L.fs,1<=f.f/\f.f<1152921504606846976
 sum:oW L.fs<=L.es.length
 few:L.es.length<=2147483648
 b:L.b<=1152921504606846976
 safe:L.safe<=L.es.length
 size:∀f ∈ L.fs,f.s<=2097152
theorem LOk.m {L:aQ}(h:LOk L){f:WF}(hf:f ∈ L.fs):f.m<=L.es.length:=by
 obtain⟨A,B,e⟩:=List.append_of_mem hf;have:=h.sum;rw[e,show A++f::B=A++([f]++B) by simp,mV,mV,pV]at this;omega
theorem LOk.last {L:aQ}(h:LOk L):L.last<=1152921506754330624:=by
 have:=h.few;have:=h.b;unfold aQ.last;omega
theorem aDI {fs:List WF}{f:WF}(h:fs.getLast? = some f):fs=fs.dropLast ++ [f]:=by
 rw[List.getLast?_eq_some_iff]at h;obtain⟨ys,rfl⟩:=h;rw[List.dropLast_concat]
theorem LOk.pop {D:aA}{L:aQ}(h:LOk L):LOk (popW D L).2.1:=by
 unfold popW;cases e:L.fs.getLast? with
 | none=>exact h
 | some f =>
  simp only;split
  ·exact h
  ·have hs:=aDI e;have h1:=h.sum;have h2:=h.few;rw[hs,mV,pV]at h1;refine⟨fun g hg=>h.nm g (List.dropLast_subset _ hg),?_,?_,h.b,?_,fun g hg=>h.size g (List.dropLast_subset _ hg)⟩
   ·simp only[List.length_take];omega
   ·simp only[List.length_take];omega
   ·have:=h.safe;simp only[List.length_take];omega
end Go.Proofs.YtjdglpcnkiioeaaGreat
namespace Go.Proofs.YtjdglpcnkiioeaaGreat
open Go.Lib (hid)
open Go.RowKit Go.Maps Go.Proofs.Own

def oM (l:List Nat)(w:World):Ending->World->Prop:=fun e w'=>e = .returned (.tuple #[.agg #[.int .u64 (eF l).t,.int .i64 (eF l).v],.int .i64 (eF l).g])/\Below w.heap.size w w'

theorem aF1 (v:Value)(l:List Nat)(w:World)(hB:Bytes w v l):Calls Tryz.prog 183 #[v] w (oM l w):=by
 have HB:=hid hB;have hlb:(l.length:Int)<=2097152:=by have:=hB.small;omega
 obtain⟨a,c,rfl,_⟩:=hB.shape;obtain⟨n,hn⟩:∃n,l.length=n:=⟨_,rfl⟩;have HN:=hid hn;rw[hn]at HB hlb ⊢;clear hB hn;go_enter Tryz.func183,Tryz.ntmps183;go_wp2_with fail;have AA:Below w.heap.size w ((w.alloc (.cells #[.int .u64 0,.int .i64 0] 72)).alloc (.cells #[.int .u64 0,.int .i64 (-1)] 72)):=((Below.refl _ _).alloc (Nat.le_refl _) _).alloc (by simp) _;have SA0:SC ((w.alloc (.cells #[.int .u64 0,.int .i64 0] 72)).alloc (.cells #[.int .u64 0,.int .i64 (-1)] 72)) w.heap.size 0 0:=⟨by go_cell,by go_cell,by simp,by simp⟩;have SA1:SC ((w.alloc (.cells #[.int .u64 0,.int .i64 0] 72)).alloc (.cells #[.int .u64 0,.int .i64 (-1)] 72)) (w.heap.size+1) 0 (-1):=⟨by go_cell,by go_cell,by simp,by simp⟩;generalize World.alloc (World.alloc w _) _=w0 at *
 have B0:=hid AA;have S0:=hid SA0;have S1:=hid SA1;clear AA SA0 SA1
 go_loopw [5] (fun i wr=>∃(p k:Nat) (t v:Int),i = .int .i64 p/\p<=n/\n-p<=k/\eF l=lastF k (l.drop p) ⟨t,v,p⟩/\SC wr w.heap.size 0 0/\SC wr (w.heap.size+1) t v/\Below w.heap.size w wr) (fun i _=>n-(intOf i).toNat)
 case atStart=>exact⟨0,n,0,-1,rfl,by omega,by omega,by unfold eF;rw[HN.out];rfl,S0.out,S1.out,B0.out⟩
 case round =>
  obtain⟨p,k,t,v,rfl,hp,hk,hl,hs0,hs1,hb⟩:=hrel;have HLR:=hid hl;have SR0:=hid hs0;have SR1:=hid hs1;have BR:=hid hb;have HK:=hid hk;clear hl hs0 hs1 hb hk S0 S1 B0;by_cases hlt:p<n
  ·obtain⟨v2,hB2,hcut⟩:=(HB.out.below BR.out).aFi Tryz.u8s p (by rw[HN.out];omega);obtain⟨a2,c2,rfl,_⟩:=hB2.shape;have HB2:=hid hB2;generalize hm:l.drop p=m at *
   have HM:=hid hm;clear hB2 hm;have hnm:¬m = []:=fun e=>by have:=congrArg List.length HM.out;rw[List.length_drop,HN.out,e]at this;simp at this;omega
   have HNM:=hid hnm;clear hnm;go_wp2_with fail;refine(kO _ m wr HB2.out).mono ?_;rintro e wt ⟨hbt,hno,hyes⟩;have T:=hid hbt;clear hbt;by_cases ht:cS m=0
   ·obtain⟨v',rfl,hB'⟩:=hyes ht;have HT:=hid ht;obtain⟨a4,c4,rfl,_⟩:=hB'.shape;have HBB:=hid hB';clear hno hyes hB' ht;by_cases hk3:m.getD 1 0=3
    ·rw[hk3];have H3:=hid hk3;clear hk3;obtain⟨rb,hrb,hown⟩:∃rb:Nat,rb<wt.heap.size/\(aF m = []\/(Value.slice a4 (aF m).length c4).ownBlock=some rb):=by
      by_cases h0:aF m = []
      ·exact⟨w.heap.size,(SR0.out.below T.out).lt,.inl h0⟩
      ·obtain⟨b,e1,e2⟩:=HBB.out.hU h0;exact⟨b,e2,.inr e1⟩
     have hwt1:(wt.alloc (.cells #[.slice a4 (aF m).length c4,.bool false] 316)).heap.size=wt.heap.size+1:=by simp
     have RR1:bT (wt.alloc (.cells #[.slice a4 (aF m).length c4,.bool false] 316)) wt.heap.size rb (aF m) false:=⟨⟨_,by go_cell,HBB.out.alloc _,hown⟩,by omega,by go_cell,by simp,by simp⟩;have A2:Below wt.heap.size wt ((wt.alloc (.cells #[.slice a4 (aF m).length c4,.bool false] 316)).alloc (.cells #[.int .u64 0,.int .i64 0] 72)):=((Below.refl _ _).alloc (Nat.le_refl _) _).alloc (by simp) _;have RR2:=RR1.below ((Below.refl _ _).alloc (Nat.le_refl _) (.cells #[.int .u64 0,.int .i64 0] 72));have SX2:SC ((wt.alloc (.cells #[.slice a4 (aF m).length c4,.bool false] 316)).alloc (.cells #[.int .u64 0,.int .i64 0] 72)) (wt.heap.size+1) 0 0:=⟨by go_cell,by go_cell,by simp,by simp⟩;clear RR1 hwt1;go_wp2_with fail;have hw0:w.heap.size+1<wt.heap.size:=(SR1.out.below T.out).lt;have NB:=hid (And.intro hw0 hrb);generalize World.alloc (World.alloc wt _) _=w2 at *
     have R2:=hid RR2;have X2:=hid SX2;have P2:=hid ((SR0.out.below T.out).below A2);have Q2:=hid ((SR1.out.below T.out).below A2);have B2:=hid ((BR.out.trans (T.out.mono BR.out.size)).trans (A2.mono (Nat.le_trans BR.out.size T.out.size)));generalize wt.heap.size=bt at *
     clear RR2 SX2 A2 hown;refine(jQ bt 1152921504606846976 (aF m) false w2 R2.out (by decide) (by decide)).mono ?_;rintro e w3 ⟨rfl,hr3,hk3⟩;rw[Bool.false_or]at hr3;have R3:=hid hr3;have X3:=hid (X2.out.kept hk3 (by omega));have P3:=hid (P2.out.kept hk3 (by omega));have Q3:=hid (Q2.out.kept hk3 (by omega));have B3:=hid (B2.out.trans (hk3.below B2.out.size (fun k hk=>by omega)));obtain⟨x0,x1,x2,x3⟩:=X3.out;have hxl:=X3.out.lt;have htm:(bO (Int.toNat 1152921504606846976) (aF m):Int)<=1152921504606846976:=by have:=fU (Int.toNat 1152921504606846976) (aF m);omega
     have HTV:Hid (vT m=bO (Int.toNat 1152921504606846976) (aF m)):=hid rfl;obtain⟨tv,htv⟩:∃tv,bO (Int.toNat 1152921504606846976) (aF m)=tv:=⟨_,rfl⟩;rw[htv]at htm HTV ⊢;have K4:=Kept.setCell w3 ⟨bt+1,0,none⟩ (.int .u64 tv);have R4:=hid (R3.out.kept K4 (by simp only;omega) (by simp only;omega));have P4:=hid (P3.out.kept K4 (by simp only;omega));have Q4:=hid (Q3.out.kept K4 (by simp only;omega));have B4:=hid (B3.out.trans (K4.below B3.out.size (fun k hk=>by simp only at hk;omega)));have X40:(w3.setCell ⟨bt+1,0,none⟩ (.int .u64 tv)).cell? ⟨bt+1,0,none⟩=some (.int .u64 tv):=css x0;have X4:Hid (SC (w3.setCell ⟨bt+1,0,none⟩ (.int .u64 tv)) (bt+1) tv 0):=hid ⟨X40,by rw[cso (by simp)];exact x1,by rw[fsc];exact x2,by rw[fsc];exact x3⟩;clear hr3 hk3 htv K4 X40;go_wp2_with fail;generalize World.setCell w3 _ _=w4 at *
     clear x0 x1 x2 x3 hxl;refine(jQ bt 7 _ _ w4 R4.out (by decide) (by decide)).mono ?_;rintro e w5 ⟨rfl,hr5,hk5⟩;have R5:=hid hr5;have X5:=hid (X4.out.kept hk5 (by omega));have P5:=hid (P4.out.kept hk5 (by omega));have Q5:=hid (Q4.out.kept hk5 (by omega));have B5:=hid (B4.out.trans (hk5.below B4.out.size (fun k hk=>by omega)));obtain⟨x0,x1,x2,x3⟩:=X5.out;have hxl:=X5.out.lt;have hvm:(bO (Int.toNat 7) (cI (Int.toNat 1152921504606846976) (aF m)):Int)<=7:=by have:=fU (Int.toNat 7) (cI (Int.toNat 1152921504606846976) (aF m));omega
     have HVV:Hid (vV m=bO (Int.toNat 7) (cI (Int.toNat 1152921504606846976) (aF m))):=hid rfl;obtain⟨vv,hvv⟩:∃vv,bO (Int.toNat 7) (cI (Int.toNat 1152921504606846976) (aF m))=vv:=⟨_,rfl⟩;rw[hvv]at hvm HVV ⊢;have K6:=Kept.setCell w5 ⟨bt+1,1,none⟩ (.int .i64 ((vv:Int)-1));have R6:=hid (R5.out.kept K6 (by simp only;omega) (by simp only;omega));have P6:=hid (P5.out.kept K6 (by simp only;omega));have Q6:=hid (Q5.out.kept K6 (by simp only;omega));have B6:=hid (B5.out.trans (K6.below B5.out.size (fun k hk=>by simp only at hk;omega)));have X61:(w5.setCell ⟨bt+1,1,none⟩ (.int .i64 ((vv:Int)-1))).cell? ⟨bt+1,1,none⟩=some (.int .i64 ((vv:Int)-1)):=css x1;have X6:Hid (SC (w5.setCell ⟨bt+1,1,none⟩ (.int .i64 ((vv:Int)-1))) (bt+1) tv ((vv:Int)-1)):=hid ⟨by rw[cso (by simp)];exact x0,X61,by rw[fsc];exact x2,by rw[fsc];exact x3⟩;clear hr5 hk5 hvv K6 X61;go_wp2_with fail;generalize World.setCell w5 _ _=w6 at *
     clear x0 x1 x2 x3 hxl;refine(yC bt _ _ w6 R6.out).mono ?_;rintro e w7 ⟨rfl,rfl⟩;have HEV:Hid (vE m=gV (cI (Int.toNat 7) (cI (Int.toNat 1152921504606846976) (aF m))) (cF (Int.toNat 1152921504606846976) (aF m) || cF (Int.toNat 7) (cI (Int.toNat 1152921504606846976) (aF m)))):=hid rfl;obtain⟨ev,hev⟩:∃ev,gV (cI (Int.toNat 7) (cI (Int.toNat 1152921504606846976) (aF m))) (cF (Int.toNat 1152921504606846976) (aF m) || cF (Int.toNat 7) (cI (Int.toNat 1152921504606846976) (aF m)))=ev:=⟨_,rfl⟩;rw[hev]at HEV ⊢;clear hev;by_cases he:ev=0
     ·subst he;have HGO:Hid (vGo m):=hid ⟨HT.out,H3.out,HEV.out⟩;obtain⟨k',hk'⟩:∃k',k=k'+1:=⟨k-1,by have:=HK.out;omega⟩;have hfl:=fW HT.out;have hbl:(aF m).length=frN m:=by
       have hs:cP m=0:=by
        false_or_by_contra
        rename_i h2;have:=HT.out;unfold cS at this;rw[if_pos h2]at this;exact h2 this
       exact fE hs
      have hml:m.length=n-p:=by rw[<- HM.out,List.length_drop,HN.out]
      have HNX:Hid (eF l=lastF k' (l.drop (p+(frN m+8))) ⟨vT m,(vV m:Int)-1,p+(frN m+8)⟩):=hid (by
       rw[HLR.out,hk',aCi HGO.out,hbl];have e1:mT m=l.drop (p+(frN m+8)):=by unfold mT;rw[<- HM.out,List.drop_drop]
       rw[e1];simp only[Nat.add_assoc])
      obtain⟨fn,hfn⟩:∃fn,frN m=fn:=⟨_,rfl⟩;have HFN:Hid (p+(fn+8)<=n/\n-(p+(fn+8))<=k'):=hid (by have:=HK.out;omega);have hfb:(p:Int)+((fn:Int)+8)<=2097152:=by have:=HFN.out;omega
      rw[hfn]at HNX ⊢;clear hfl hbl hml hfn;obtain⟨x0,x1,x2,x3⟩:=X6.out;obtain⟨s0,s1,s2,s3⟩:=Q6.out;have hxl:=X6.out.lt;have hsl:=Q6.out.lt;have QN:=hid (Q6.out.set tv ((vv:Int)-1));have KN:=Kept.iO w6 (w.heap.size+1) (.int .u64 tv) (.int .i64 ((vv:Int)-1));have PN:=hid (P6.out.kept KN (by omega));have BN:=hid (B6.out.trans (KN.below B6.out.size (fun k hk=>by omega)));clear KN;rw[HTV.out,HVV.out]at HNX;go_wp2_with fail;generalize World.setCell _ _ _=wN at *
      go_roundw
      case rel=>exact⟨p+(fn+8),k',tv,(vv:Int)-1,by first|rfl|go_num,HFN.out.1,HFN.out.2,HNX.out,PN.out,QN.out,BN.out⟩
      all_goals (simp only[intOf];have:=HFN.out;omega)
     ·have hev0:((ev:Int) != 0)=true:=bne_iff_ne.2 (by omega);have HEND:Hid (eF l=⟨t,v,p⟩):=hid (by rw[HLR.out];exact mU (fun h=>he (by rw[<- HEV.out];exact h.2.2)) _ _);clear he;obtain⟨p0,p1,p2,p3⟩:=P6.out;obtain⟨s0,s1,s2,s3⟩:=Q6.out;have hp0:=(P6.out).lt;have hp1:=(Q6.out).lt;have RFF:=hid ((P6.out).set t v);have BF:=hid ((B6.out).trans ((Kept.iO w6 w.heap.size (.int .u64 t) (.int .i64 v)).below (B6.out).size (fun k hk=>by omega)));go_wp2_with fail;generalize (w6.setCell ⟨w.heap.size,0,none⟩ (.int .u64 t)).setCell ⟨w.heap.size,1,none⟩ (.int .i64 v)=wF at *
      obtain⟨q0,q1,_,_⟩:=RFF.out;refine bodyPost_ret (v:=.tuple #[.agg #[.int .u64 t,.int .i64 v],.int .i64 p]) (by simp[results,Tryz.results183,go_sem,q0,q1]) rfl ?_;unfold oM;rw[HEND.out];exact⟨rfl,BF.out⟩
    ·have hkb:(((m.getD 1 0:Nat):Int) != 3)=true:=bne_iff_ne.2 (by omega);have HEND:Hid (eF l=⟨t,v,p⟩):=hid (by rw[HLR.out];exact mU (fun h=>hk3 h.2.1) _ _);clear hk3;generalize m.getD 1 0=kd at *
     obtain⟨p0,p1,p2,p3⟩:=SR0.out.below T.out;obtain⟨s0,s1,s2,s3⟩:=SR1.out.below T.out;have hp0:=(SR0.out.below T.out).lt;have hp1:=(SR1.out.below T.out).lt;have RFF:=hid ((SR0.out.below T.out).set t v);have BF:=hid ((BR.out.trans (T.out.mono BR.out.size)).trans ((Kept.iO wt w.heap.size (.int .u64 t) (.int .i64 v)).below (BR.out.trans (T.out.mono BR.out.size)).size (fun k hk=>by omega)));go_wp2_with fail;generalize (wt.setCell ⟨w.heap.size,0,none⟩ (.int .u64 t)).setCell ⟨w.heap.size,1,none⟩ (.int .i64 v)=wF at *
     obtain⟨q0,q1,_,_⟩:=RFF.out;refine bodyPost_ret (v:=.tuple #[.agg #[.int .u64 t,.int .i64 v],.int .i64 p]) (by simp[results,Tryz.results183,go_sem,q0,q1]) rfl ?_;unfold oM;rw[HEND.out];exact⟨rfl,BF.out⟩
   ·obtain rfl:=hno ht;have HEND:Hid (eF l=⟨t,v,p⟩):=hid (by rw[HLR.out];exact mU (fun h=>ht h.1) _ _);obtain⟨te,hte⟩:∃te,cS m=te:=⟨_,rfl⟩;have hteb:((te:Int) != 0)=true:=bne_iff_ne.2 (by rw[hte]at ht;omega);rw[hte];clear hno hyes ht hte;obtain⟨p0,p1,p2,p3⟩:=SR0.out.below T.out;obtain⟨s0,s1,s2,s3⟩:=SR1.out.below T.out;have hp0:=(SR0.out.below T.out).lt;have hp1:=(SR1.out.below T.out).lt;have RFF:=hid ((SR0.out.below T.out).set t v);have BF:=hid ((BR.out.trans (T.out.mono BR.out.size)).trans ((Kept.iO wt w.heap.size (.int .u64 t) (.int .i64 v)).below (BR.out.trans (T.out.mono BR.out.size)).size (fun k hk=>by omega)));go_wp2_with fail;generalize (wt.setCell ⟨w.heap.size,0,none⟩ (.int .u64 t)).setCell ⟨w.heap.size,1,none⟩ (.int .i64 v)=wF at *
    obtain⟨q0,q1,_,_⟩:=RFF.out;refine bodyPost_ret (v:=.tuple #[.agg #[.int .u64 t,.int .i64 v],.int .i64 p]) (by simp[results,Tryz.results183,go_sem,q0,q1]) rfl ?_;unfold oM;rw[HEND.out];exact⟨rfl,BF.out⟩
  ·obtain rfl:p=n:=by omega
   have HEND:Hid (eF l=⟨t,v,p⟩):=hid (by rw[HLR.out,List.drop_of_length_le (by rw[HN.out];exact Nat.le_refl _)];exact mU (fun h=>by have:=h.1;revert this;decide) _ _);obtain⟨p0,p1,p2,p3⟩:=SR0.out;obtain⟨s0,s1,s2,s3⟩:=SR1.out;have hp0:=(SR0.out).lt;have hp1:=(SR1.out).lt;have RFF:=hid ((SR0.out).set t v);have BF:=hid ((BR.out).trans ((Kept.iO wr w.heap.size (.int .u64 t) (.int .i64 v)).below (BR.out).size (fun k hk=>by omega)));go_wp2_with fail;generalize (wr.setCell ⟨w.heap.size,0,none⟩ (.int .u64 t)).setCell ⟨w.heap.size,1,none⟩ (.int .i64 v)=wF at *
   obtain⟨q0,q1,_,_⟩:=RFF.out;refine bodyPost_ret (v:=.tuple #[.agg #[.int .u64 t,.int .i64 v],.int .i64 p]) (by simp[results,Tryz.results183,go_sem,q0,q1]) rfl ?_;unfold oM;rw[HEND.out];exact⟨rfl,BF.out⟩
