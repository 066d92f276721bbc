/- For vltopens_law_holds. -/
import Derived.Maps.RangeWalk
import Derived.Test.YtjdglpcnkiioeaaGreatVob19
set_option maxHeartbeats 16000000
namespace Go.Proofs.YtjdglpcnkiioeaaGreat
open Go.Lib (hid)
open Go.RowKit Go.Maps Go.Proofs.Own

def total (L:List aJ):Nat:=(L.map fun f=>f.all.length).sum
def told (left:Lit->Bool)(L:List aJ):Nat:=(L.map fun f=>if left (iJ f.name) then 0 else f.all.length).sum
def iV (D:aA):Int:=max (D.room-total D.files) 0
theorem eE (f:aJ)(L:List aJ):total (f::L)=f.all.length+total L:=by simp[total]
theorem jC (left:Lit->Bool)(f:aJ)(L:List aJ):told left (f::L)=(if left (iJ f.name) then 0 else f.all.length)+told left L:=by simp[told]
theorem aE3 (left:Lit->Bool):∀L,told left L<=total L
 | []=>Nat.le_refl _
 | f::L=>by
  rw[jC,eE];have:=aE3 left L;split<;>omega
theorem aAS {left:Lit->Bool}(h:∀k,left k=false):∀L,told left L=total L
 | []=>rfl
 | f::L=>by rw[jC,eE,aAS h L,h];simp
theorem aC3 {left:Lit->Bool}:∀ {L:List aJ},(∀f ∈ L,left (iJ f.name)=true)->told left L=0
 | [],_=>rfl
 | f::L,h=>by rw[jC,h f (by simp),aC3 fun g hg=>h g (by simp[hg])];simp
theorem aAT {left left':Lit->Bool}:∀ {L:List aJ},(∀f ∈ L,left (iJ f.name)=left' (iJ f.name))->told left L=told left' L
 | [],_=>rfl
 | f::L,h=>by rw[jC,jC,h f (by simp),aAT fun g hg=>h g (by simp[hg])]
theorem aAU {left:Lit->Bool}{f:aJ}:∀ {L:List aJ},L.Pairwise (fun a b=>a.name≠b.name)->f ∈ L->left (iJ f.name)=true->told (fun z=>left z && !z.sameKey (iJ f.name)) L=told left L+f.all.length
 | [],_,h,_=>by cases h
 | g::L,hp,hm,hl=>by
  rw[jC,jC];obtain⟨h1,h2⟩:=List.pairwise_cons.1 hp;rcases List.mem_cons.1 hm with rfl|hm
  ·have e:told (fun z=>left z && !z.sameKey (iJ f.name)) L=told left L:=aAT fun x hx=>by
    rw[gS,decide_eq_false fun e=>h1 x hx e.symm];simp
   rw[e,hl,gS];simp;omega
  ·have hne:g.name≠f.name:=h1 f hm;rw[aAU h2 hm hl,gS,decide_eq_false hne];simp only[Bool.not_false,Bool.and_true];omega
theorem gT.apart {w:World}{mb:Nat}{vals:ByteArray->Value}{L:List aJ}(h:gT w mb vals L):L.Pairwise (fun a b=>a.name≠b.name):=by
 obtain⟨es,he,hp,_⟩:=World.ownsMap.entries h law;unfold dat at he;cases he;rw[List.pairwise_map]at hp;exact hp.imp fun h e=>h (by simp only[ent,e])
theorem keyOf_str {key:Value}{kl:Lit}(h:keyOf Tryz.prog 9 key=some kl):∃x,key = .string x:=by
 cases key<;>simp[keyOf,Tryz.underlying9,mapKey]at h ⊢
theorem aHf {x:ByteArray}{kl:Lit}(h:keyOf Tryz.prog 9 (.string x)=some kl):kl=iJ x:=by
 simp[keyOf,Tryz.underlying9,mapKey]at h;exact h.2.symm
theorem aIp {vals:ByteArray->Value}{L:List aJ}{x:ByteArray}{v:Value}(h:∀zd,(dat vals L).atKey (iJ x) zd = .held v):(∃f,aE x L=some f)/\vals x=v:=by
 have h1:=h .nil;rw[dat_at]at h1;cases e:aE x L with
 | none=>rw[e]at h1;cases h1
 | some f=>rw[e]at h1;exact⟨⟨f,rfl⟩,by cases h1;rfl⟩
structure aJr where
 a:Option Addr
 n:Nat
 c:Nat
 k:Int
theorem aFe {v:Value}{y:DataW Value × List MemPlace}(h:gW v=some y):∃p:aJr,v = .agg #[.slice p.a p.n p.c,.int .i64 p.k]:=by
 obtain⟨⟨a,n,c,k,e⟩,_⟩:=mN h;exact⟨⟨a,n,c,k⟩,e⟩

theorem aAd (db mb tb:Nat)(D:aA)(w:World)(h:aG w db mb tb D)(hw:DWf D)(ht:total D.files<=4294967296) :
  Calls Tryz.prog 84 #[.pointer (some ⟨db,0,none⟩)] w fun e w'=>e = .returned (.int .i64 (iV D))/\Below w.heap.size w w':=by
 have H:=hid h;have c0:=h.c0;have c1:=h.c1;have hr0:=hw.room0;have hr1:=hw.room1;obtain⟨vals,hm,hfs⟩:=h.fs;have HAP:=hid hm.apart;have HM:=hid hm;have HFS:=hid hfs;have HT:=hid ht;have hl:=h.lt;have hlm:=h.ltm;clear h hw hm hfs ht;go_enter Tryz.func84,Tryz.ntmps84;go_wp2_with fail;refine(aAf db mb tb D _ H.out).mono ?_;rintro e w1 ⟨rfl,rfl⟩
 go_wp2_with (at_range;refine wpList_range_own _ rfl _ 47 rfl 9 134 law Tryz.underlying47 gW mb D.files.length (dat vals D.files) rfl HM.out ?_;intro w0 hrg0 hg0 hs0)
 go_frame
 have HR0:=hid hrg0;have B0:Hid (Below w.heap.size w w0):=hid (by exact⟨hg0.os,hg0.tape,hg0.output,hg0.size,fun k hk=>hg0.block k hk (by simp)⟩);have HS0:=hid hs0;clear hrg0 hg0 hs0
 go_loopw [3] (fun x wr=>∃left cnt,wr.ranges Tryz.prog 9 gW mb w.heap.size D.files.length (dat vals D.files) left cnt/\x = .int .i64 (D.room-told left D.files)/\Below w.heap.size w wr) (fun _ wr=>wr.rangeLeft mb w.heap.size)
 case atStart =>
  refine⟨_,_,HR0.out,?_,B0.out⟩;rw[aC3 fun f hf=>?_]
  ·simp
  ·rw[aA8];cases e:aE f.name D.files with
   | none=>exact absurd (List.find?_eq_none.1 e f hf) (by simp)
   | some g=>rfl
 case round =>
  obtain⟨left,cnt,hrg,rfl,hbl⟩:=hrel;have HB:=hid hbl;have HRG:=hid hrg;have hsz:=hbl.size;clear hbl hrg
  go_wp2_with (at_next;refine wpList_next_ranges _ rfl _ rfl 9 law gW Value.string (fun p:aJr=>.agg #[.slice p.a p.n p.c,.int .i64 p.k]) (fun _ _ h=>keyOf_str h) (fun _ _ h=>aFe h) mb w.heap.size D.files.length (dat vals D.files) left cnt rfl HRG.out ?_ ?_)
  ·intro _ hl0;have HN:Hid (told left D.files=total D.files):=hid (aAS hl0 D.files);clear hl0;rw[HN.out];have htl:(total D.files:Int)<=4294967296:=by have:=HT.out;omega
   go_wp2_with fail
   all_goals
    go_ret;exact⟨aJb (by unfold iV;omega),HB.out⟩
  ·intro x p kl yd yps w1 cnt1 hkey hlx hv hat hrg1 hlt hg1 hs1 hen;have hkl:=aHf hkey;subst hkl;have hy:=(mN hv).2;simp only[Prod.mk.injEq]at hy;obtain⟨rfl,rfl⟩:=hy;obtain⟨⟨f,hf⟩,hvx⟩:=aIp hat;obtain⟨hfn,hfm⟩:=cK hf;have hfi:=HFS.out f hfm;rw[hfn,hvx]at hfi;obtain⟨a,c,e,hB,_⟩:=hfi;obtain⟨pa,pn,pc,pk⟩:=p;simp only at e hen;have hpn:pn=f.all.length:=by simp at e;exact e.1.2.1
   have HSTEP:Hid (told (fun z=>left z && !z.sameKey (iJ x)) D.files=told left D.files+f.all.length):=hid (by rw[<- hfn];exact aAU HAP.out hfm (by rw[hfn];exact hlx));have hfl:(f.all.length:Int)<=2097152:=by have:=hB.small;omega
   have htl:((told left D.files:Nat):Int)<=4294967296:=by have:=HT.out;have:=aE3 left D.files;omega
   have HRG1:=hid hrg1;have HB1:Hid (Below w.heap.size w w1):=hid ⟨hg1.os.trans HB.out.os,hg1.tape.trans HB.out.tape,hg1.output.trans HB.out.output,Nat.le_trans HB.out.size hg1.size,fun k hk=>(hg1.block k (Nat.lt_of_lt_of_le hk hsz) (by intro e;cases e;omega)).trans (HB.out.block k hk)⟩;have HPN:=hid hpn;have HCNT:=hid hlt;have HW64:Hid (wrap64 (D.room-told left D.files-pn)=D.room-told left D.files-pn):=hid (by simp only[wrap64];omega);have hsz1:=HB1.out.size;clear hkey hlx hv hat hrg1 hlt hg1 hs1 hf hvx hfn hfm e hB hpn;go_wp2_with fail
   go_roundw
   case rel =>
    refine⟨_,_,HRG1.out.alloc _,?_,HB1.out.alloc hsz1 _⟩;rw[HW64.out,HSTEP.out,HPN.out]
    congr 1
    omega
   case measure =>
    rw[(HRG1.out.alloc _).left_eq,HRG.out.left_eq];exact HCNT.out
