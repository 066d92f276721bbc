/- For vltopens_law_holds. -/
import Derived.Deep.LoopGhost
import Derived.Deep.CutBlock
import Derived.Deep.DeepCutAuto
import Derived.Test.YtjdglpcnkiioeaaGreatVob43
set_option maxHeartbeats 16000000
set_option maxRecDepth 100000
namespace Go.Proofs.YtjdglpcnkiioeaaGreat
open Go.Lib (hid)
open Go.RowKit Go.Maps Go.Proofs.Own
theorem aI1 {S:Nat->Prop}{w:World}{D:aA}{a:Option Addr}{c:Nat}(h:In S w (DR D a c))(hg:aY D)(hst:D.steps+1<=1000000000)(hb8:kE D.files):Calls Tryz.prog 187 #[dv D a c] w (QFd S D w):=by
 have F:=h.fr;have HG:=hid hg;have HST:=hid hst;have HB8:=hid hb8;have hfl:(D.files.length:Int)<=1000:=by have:=hg.aBt.2.2;omega
 unfold dv;clear h hg hst hb8;go_enter Tryz.func187,Tryz.ntmps187
 go_upto_block 0 with fail
 refine stq ?_;intro w F C;clear C;have F1:=F
 rename World=>w1
 go_cut [8] from 24 to 39 (fun x wr=>∃kk:Nat,x = .int .i64 ((kk:Int)-1)/\aE8 D.files kk/\wr=w1)
 case first =>
  refine fx fun C=>?_;go_wp2_with fail
  go_loopw [8,9,10] (fun x _ _ wr=>∃kk:Nat,x = .int .i64 ((kk:Int)-1)/\kk<=D.files.length/\(∀j f,kk<=j->D.files[j]? = some f->isW f=false)/\wr=w1) (fun x _ _ _=>(intOf x+1).toNat)
  case atStart=>exact⟨D.files.length,rfl,Nat.le_refl _,fun j f hj hf=>by have:=(List.getElem?_eq_some_iff.1 hf).1;omega,rfl⟩
  case round =>
   obtain⟨kk,rfl,hkk,hno,rfl⟩:=hrel
   rename World=>w
   have HNO:=hid hno;clear hno;cases kk with
   | zero =>
    go_wp2_with fail
    go_meet
    exact⟨0,rfl,⟨Nat.zero_le _,HNO.out,nofun⟩,rfl⟩
   | succ kk =>
    obtain⟨f,hLi⟩:∃f,D.files[kk]? = some f:=⟨_,List.getElem?_eq_getElem hkk⟩;obtain⟨fb,fo,rfl,_⟩:=bJ.file F.r hLi;replace F:=F.put (F.get fun _ h=>bJ.jW h hLi);have HLI:=hid hLi;rw[show ((kk+1:Nat):Int)-1=(kk:Int) by omega];clear hLi C;refine fx fun C=>?_;go_wp2_with fail;refine(qfirst_any f.name w).mono ?_;rintro e w' ⟨rfl,rfl⟩;by_cases hw:bB (aP f.name)=0
    ·rw[decide_eq_false (by simpa using hw)];have HW:=hid hw;clear hw;go_wp2_with fail
     go_roundw
     case rel=>exact⟨kk,rfl,by omega,fun j g hj hg=>by
      by_cases e:kk=j
      ·subst e;obtain rfl:=Option.some.inj (HLI.out.symm.trans hg);unfold isW;rw[HW.out];rfl
      ·exact HNO.out j g (by omega) hg,trivial⟩
     case measure=>simp[intOf]
    ·rw[decide_eq_true (by simpa using hw)];have HW:=hid hw;clear hw;go_wp2_with fail
     go_meet
     refine⟨kk+1,by rw[show ((kk+1:Nat):Int)-1=(kk:Int) by omega],⟨hkk,HNO.out,fun g hg=>?_⟩,rfl⟩;rw[List.getLast?_take,if_neg (by omega),Nat.add_sub_cancel,HLI.out]at hg;obtain rfl:=Option.some.inj hg;unfold isW;simpa using HW.out
 case rest =>
  obtain⟨kk,rfl,htop,rfl⟩:=hcut
  rename World=>w
  obtain⟨z,hz⟩:∃z:Int,(kk:Int)-1=z:=⟨_,rfl⟩;obtain⟨bz,hbz⟩:∃bz,w.heap.size=bz:=⟨_,rfl⟩;have HTOP:=hid htop;have HKZ:=hid hz;have HB0:Hid (_<=bz):=hid (hbz ▸ F1.bel.size);obtain⟨lz,hlz⟩:=F1.boxes;have HLZ:=hid hlz;have HB1:Hid (∀i,ow S lz i->i<bz):=hid (hbz ▸ hlz ▸ F1.few);have HB2:=hid hbz;have hkl:(kk:Int)<=1000:=by have:=htop.le;omega
  rw[hz];clear htop hbz hlz;refine fx fun C=>?_;go_wp2_with fail;clear C
  go_loopw [7,11,12,13,14,15,16,17] (fun g i _ _ _ _ _ _ wr=>∃(ii:Nat) (L:aQ) (ea:Option Addr) (ec:Nat) (fa:Option Addr) (fc:Nat) (el:bN),g = .int .i64 (xF L:Int)/\i = .int .i64 ii/\ii<=kk/\el.map (·.1)=L.es/\loadR D ((D.files.take kk).drop ii) L=loadR D (D.files.take kk) ⟨0,[],[],0⟩/\mL ii L /\
   F1.asO wr [[.int .i64 D.room,.slice a D.files.length c,.bool D.down,.int .i64 D.armed,.int .u64 D.steps],[.int .i64 0,.slice none 0 0,.bool false,.int .i64 0,.int .u64 0],[.int .u64 0,.slice none 0 0,.slice none 0 0,.int .i64 0],[.int .u64 L.b,.slice ea L.es.length ec,.slice fa L.fs.length fc,.int .i64 L.safe]] lz bz 276 3 (.slice fa L.fs.length fc) (L.fs.map rwf) (fun u=>bz<=u.heap.size/\DR D a c u/\jV u (.slice ea L.es.length ec) el)) (fun _ i _ _ _ _ _ _ _=>(kk+1:Nat)-(intOf i).toNat)
  case atStart=>exact⟨0,⟨0,[],[],0⟩,none,0,none,0,[],rfl,rfl,Nat.zero_le _,rfl,rfl,⟨⟨nofun,Nat.le_refl _,by decide,by decide,Nat.le_refl _,nofun⟩,Nat.zero_le _,Nat.zero_le _⟩,F.inO HLZ.out (dU.nil _ _ _ _) nofun (fun u ku=>⟨HB2.out ▸ ku.size,F.saf u (ku.mono fun i _ h=>h.imp (fun h=>h.elim id fun h=>by cases h) fun h=>HLZ.out ▸ h),bJ.nil _ _,nofun⟩)⟩
  case round =>
   obtain⟨ii,L,ea,ec,fa,fc,el,rfl,rfl,hii,hel,hld,hok,F⟩:=hrel;unfold Fr.asO at F;simp only[List.zipWith]at F
   rename World=>w
   obtain⟨lb,es,fs,safe⟩:=L;have HEL:=hid hel;have HOK:=hid hok;have hlast:=hok.ok.last;have HLA:=hid hlast;have hel1:(es.length:Int)<=2147483648:=by have:=hok.ok.few;simp only at this;omega
   have hfl1:(fs.length:Int)<=1000:=by have:=hok.fs;simp only at this;omega
   clear hok hel;by_cases hi:(ii:Int)<=z
   ·obtain⟨f,hLi⟩:∃f,D.files[ii]? = some f:=⟨_,List.getElem?_eq_getElem (by have:=HTOP.out.le;omega)⟩;obtain⟨rr,hrr⟩:∃rr,rr=(D.files.take kk).drop (ii+1):=⟨_,rfl⟩;have HRR:=hid hrr;have HRN:Hid (rr = [] ↔ (ii:Int)=z):=hid (by rw[hrr,List.drop_eq_nil_iff,List.length_take,Nat.min_eq_left HTOP.out.le];omega);have hdr:(D.files.take kk).drop ii=f::rr:=by
     have h1:ii<(D.files.take kk).length:=by rw[List.length_take];have:=HTOP.out.le;omega
     rw[List.drop_eq_getElem_cons h1,List.getElem_take,hrr]
     congr 1
     exact(List.getElem?_eq_some_iff.1 hLi).2
    rw[hdr]at hld;have HLD:=hid hld;obtain⟨fb,fo,rfl,_⟩:=bJ.file F.r.1.1.2.1 hLi;replace F:=F.put (F.get fun _ h=>bJ.jW h.1.1.2.1 hLi);have hmem:=List.mem_of_getElem? hLi;have hil:=(List.getElem?_eq_some_iff.1 hLi).1;have hsm:=nF HG.out.tot f hmem;have HSM:=hid hsm;have HTB:Hid (aP (bX f.all)=f.all):=hid (dO (HB8.out f hmem));have HSZ:Hid ((bX f.all).size<=2097152):=hid (by rw[cH];omega);have hnl:=pQ (aP f.name);clear hld hdr hrr hLi hmem hlast hsm;refine fx fun C=>?_
    go_wp2_with (refine stq ?_;clear C;intro w F C)
    refine(qfirst_any f.name w).mono ?_;rintro e w' ⟨rfl,rfl⟩;obtain⟨nn,hnn⟩:∃nn,bB (aP f.name)=nn:=⟨_,rfl⟩;have HNN:=hid hnn;rw[hnn]at hnl ⊢;clear hnn;by_cases hw:nn=0
    ·rw[decide_eq_false (by simpa using hw)];have HSK:=hid (aDL (D:=D) (r:=rr) (L:=⟨lb,es,fs,safe⟩) (HNN.out.trans hw));clear hw;go_wp2_with fail
     go_roundw
     case rel=>exact⟨ii+1,⟨lb,es,fs,safe⟩,ea,ec,fa,fc,el,rfl,by first|rfl|(congr 1),by omega,HEL.out,by rw[<- HRR.out,<- HSK.out];exact HLD.out,mL.more HOK.out,(F.first 4).vL fun _ h=>h.2⟩
     case measure=>simp[intOf];omega
    ·rw[decide_eq_true (by simpa using hw)];have HW:Hid (¬bB (aP f.name)=0):=hid (by rw[HNN.out];exact hw);have HN12:Hid (1<=nn/\nn<1152921504606846976):=hid ⟨by omega,hnl⟩;clear hw hnl
     go_wp2_with (first
      | (refine eA rfl 9 36 5 _ rfl Tryz.underlying9 Tryz.underlying36 Tryz.underlying5 _ rfl HSZ.out ?_;intro bv w hB hb hob;rw[HTB.out]at hB;replace F:=F.call hb;have HB:=hid hB;clear C hB hb hob;refine fx fun C=>?_)
      | (refine stq ?_;clear C;intro w F C))
     refine(aKe _ f.all w HB.out).mono ?_;rintro e w ⟨elm,ma,mc,rfl,hm,hs,hb⟩;have hml:elm.length=(cZ f.all).es.length:=(List.length_map (fun x:cU × Value=>x.1)).symm.trans (congrArg List.length hm);obtain⟨hq1,hq2⟩:=yL f.all;obtain⟨so,hso⟩:∃so,cZ f.all=so:=⟨_,rfl⟩;have HSO:=hid hso;rw[hml]at hs ⊢;rw[hso]at hml hm hq1 hq2 hs ⊢;have HM:=hid hm;have HML:=hid hml;replace F:=(F.call hb).put ((hs _ (F.aLf F.r.2.1.2)).sf (U:=ow (vD S (.slice fa fs.length fc)) lz) (fun i _ h=>h.imp .inl id) fun i h=>h.imp id fun h=>by rw[<- HLZ.out]at h;exact List.mem_append_left [_] h);have hgl:(so.g:Int)<=2097152:=by have:=HSM.out;omega
     have hsl2:(so.es.length:Int)<=2097152:=by have:=HSM.out;omega
     clear C hs hb hso hml hm hq1 hq2 HB;by_cases hf:so.f=nn
     ·have hfb:((so.f:Int) != (nn:Int))=false:=by simp;omega
      have HF:Hid ((cZ f.all).f=bB (aP f.name)):=hid (by rw[HSO.out,HNN.out];exact hf);clear hf;have hcases:((((ii:Int) != z)=true/\((so.g:Int) != ((bX f.all).size:Int))=true)/\Hid (loadR D (f::rr) ⟨lb,es,fs,safe⟩=(D,⟨lb,es,fs,safe⟩,20))) \/
        (((((ii:Int) != z)=false\/((ii:Int) != z)=true/\((so.g:Int) != ((bX f.all).size:Int))=false)/\(0:Int)<(fs.length:Int)/\((nn:Int) != (lb:Int)+(es.length:Int)+1)=true)/\Hid (loadR D (f::rr) ⟨lb,es,fs,safe⟩=(D,⟨lb,es,fs,safe⟩,20))) \/
        ∃nb:Nat,((((ii:Int) != z)=false\/((ii:Int) != z)=true/\((so.g:Int) != ((bX f.all).size:Int))=false)/\((¬(0:Int)<(fs.length:Int)/\((fs.length:Int)==0)=true/\(nn:Int)-1=(nb:Int)/\IntKind.u64.wrap (nb:Int)=(nb:Int))\/((0:Int)<(fs.length:Int)/\((fs.length:Int)==0)=false/\((nn:Int) != (lb:Int)+(es.length:Int)+1)=false/\lb=nb))) /\
         Hid (loadR D (f::rr) ⟨lb,es,fs,safe⟩=loadR D rr ⟨nb,es++so.es,fs ++ [⟨nn,so.es.length,so.g⟩],safe⟩/\mL (ii+1) ⟨nb,es++so.es,fs ++ [⟨nn,so.es.length,so.g⟩],safe⟩):=by
       have hB:∀bb:Nat,(if fs = [] then nn-1 else lb)=bb -> ¬((rr ≠ []/\(cZ f.all).g≠f.all.length)\/(fs ≠ []/\bB (aP f.name)≠aQ.last ⟨lb,es,fs,safe⟩+1))->Hid (loadR D (f::rr) ⟨lb,es,fs,safe⟩=loadR D rr ⟨bb,es++so.es,fs ++ [⟨nn,so.es.length,so.g⟩],safe⟩/\mL (ii+1) ⟨bb,es++so.es,fs ++ [⟨nn,so.es.length,so.g⟩],safe⟩):=fun bb hbb q=>by
        have ht:=aDM (D:=D) (L:=⟨lb,es,fs,safe⟩) HW.out HF.out q;simp only[HSO.out,HNN.out,hbb]at ht;have h1:=HOK.out.take (by omega) (first:=nn) (b:=f.all) (last:=decide (rr = [])) HN12.out.1 HN12.out.2 (by have:=HSM.out;omega);rw[ht.1]at h1;exact hid ⟨ht.2,h1⟩
       by_cases hA:(ii:Int)≠z/\so.g≠f.all.length
       ·exact .inl ⟨⟨by simpa using hA.1,by rw[cH];have:=hA.2;simp;omega⟩,hid (tL HW.out (fun q=>q.1 HF.out) (.inr (.inl ⟨fun e=>hA.1 (HRN.out.1 e),by rw[HSO.out];exact hA.2⟩)))⟩
       ·have hA1:((ii:Int) != z)=false\/((ii:Int) != z)=true/\((so.g:Int) != ((bX f.all).size:Int))=false:=by
         by_cases hq:(ii:Int)=z
         ·exact .inl (by simp[hq])
         ·exact .inr ⟨by simp[hq],by rw[cH];have:so.g=f.all.length:=Classical.byContradiction fun q=>hA ⟨hq,q⟩;simp[this]⟩
        have hA2:¬(rr ≠ []/\(cZ f.all).g≠f.all.length):=fun q=>hA ⟨fun e=>q.1 (HRN.out.2 e),by rw[<- HSO.out];exact q.2⟩;by_cases hfe:fs = []
        ·exact .inr (.inr ⟨nn-1,⟨hA1,.inl ⟨by rw[hfe];decide,by rw[hfe];rfl,by have:=HN12.out.1;omega,yX (by have:=HN12.out;omega)⟩⟩,hB _ (if_pos hfe) fun q=>q.elim hA2 fun q=>q.1 hfe⟩)
        ·have hpos:(0:Int)<(fs.length:Int):=by have:=List.length_pos_iff.2 hfe;omega
         by_cases hq:nn=lb+es.length+1
         ·exact .inr (.inr ⟨lb,⟨hA1,.inr ⟨hpos,by simpa using hfe,by simp;omega,rfl⟩⟩,hB _ (if_neg hfe) fun q=>q.elim hA2 fun q=>q.2 (by rw[HNN.out];exact hq)⟩)
         ·exact .inr (.inl ⟨⟨hA1,hpos,by simp;omega⟩,hid (tL HW.out (fun q=>q.1 HF.out) (.inr (.inr ⟨hfe,by rw[HNN.out];exact hq⟩)))⟩)
      rcases hcases with ⟨⟨hc1,hc2⟩,HV⟩|⟨⟨hc1,hc2,hc3⟩,HV⟩|⟨nb,⟨hc1,hc2⟩,HV⟩
      ·replace HV:=hid (HLD.out.symm.trans HV.out);refine fx fun C=>?_;go_wp2_with fail;clear C;refine rg (⟨⟩:Pm [0,0,1,7,15,31] 4 [.h [0,1],.o 2,.o 3,.h [4,5]] [false,true,true]) ?_;intro w F C
       go_wp2_with (refine stq ?_;clear C;intro w F C)
       refine rt Tryz.results187 ?_;refine⟨kk,HTOP.out,?_⟩;rw[HV.out];exact⟨_,_,_,_,_,_,_,_,rfl,nofun,F.fin (fun _ h=>⟨h.2.2.1.1.2.1,HEL.out,h.2.2.1.1.2.2,bJ.gH h.2.2.1.2⟩),F.bel⟩
      ·replace HV:=hid (HLD.out.symm.trans HV.out);have HC2:=hid hc2;rcases hc1 with hc1|⟨hc1,hc4⟩
       all_goals
        refine fx fun C=>?_
        go_wp2_with (refine stq ?_;clear C;intro w F C)
        refine(lE ⟨lb,es,fs,safe⟩ ea ec fa fc w (by have:=HLA.out;omega)).mono ?_;rintro e w ⟨rfl,hb⟩;replace F:=F.call hb;clear C hb;rw[show ((aQ.last ⟨lb,es,fs,safe⟩:Nat):Int)=(lb:Int)+(es.length:Int) by unfold aQ.last;simp];have hla:(lb:Int)+(es.length:Int)+1<18446744073709551616:=by have:=HLA.out;unfold aQ.last at this;simp only at this;omega
        refine fx fun C=>?_
        go_wp2_with (refine stq ?_;clear C;intro w F C)
        clear C;refine rg (⟨⟩:Pm [0,0,1,7,15,31] 4 [.h [0,1],.o 2,.o 3,.h [4,5]] [false,true,true]) ?_;intro w F C
        go_wp2_with (refine stq ?_;clear C;intro w F C)
        refine rt Tryz.results187 ?_;refine⟨kk,HTOP.out,?_⟩;rw[HV.out];exact⟨_,_,_,_,_,_,_,_,rfl,nofun,F.fin (fun _ h=>⟨h.2.2.1.1.2.1,HEL.out,h.2.2.1.1.2.2,bJ.gH h.2.2.1.2⟩),F.bel⟩
      ·obtain⟨HV,HK2⟩:Hid (loadR D (f::rr) ⟨lb,es,fs,safe⟩=loadR D rr ⟨nb,es++so.es,fs ++ [⟨nn,so.es.length,so.g⟩],safe⟩)/\Hid (mL (ii+1) ⟨nb,es++so.es,fs ++ [⟨nn,so.es.length,so.g⟩],safe⟩):=⟨hid HV.out.1,hid HV.out.2⟩;replace HV:=hid (HV.out.symm.trans HLD.out);have hle:el.length=es.length:=(List.length_map (fun x:cU × Value=>x.1)).symm.trans (congrArg List.length HEL.out);have HLE:=hid hle;have HLN:Hid (el.length<=4294967296/\el.length+elm.length<=4294967296):=hid (by have:=HML.out;omega);clear hle;rcases hc1 with hc1|⟨hc1,hc4⟩<;>rcases hc2 with ⟨hc5,hc6,hc7,hc8⟩|⟨hc5,hc6,hc7,rfl⟩
       all_goals
        refine fx fun C=>?_
        go_wp2_with (first
         | (refine (lE ⟨lb, es, fs, safe⟩ ea ec fa fc w (by have := HLA.out; omega)).mono ?_
            rintro e w ⟨rfl,hb⟩;replace F:=F.call hb;clear C hb;rw[show ((aQ.last ⟨lb,es,fs,safe⟩:Nat):Int)=(lb:Int)+(es.length:Int) by unfold aQ.last;simp];have hla:(lb:Int)+(es.length:Int)+1<18446744073709551616:=by have:=HLA.out;unfold aQ.last at this;simp only at this;omega
            refine fx fun C=>?_)
         | (at_builtin
            try (have E:=Eq.refl w.heap.size;rw[nZ w];generalize hW:aCQ w _ _=w;replace F:=F.u 3 rfl hW;replace E:=aEh hW E;simp only[fS]at F;clear hW;rw[<- E];clear E)
            refine ap3 nK (ns:=aN el) F.r.2.2.1.1.2.2.1 (gP _) (cA.lV F.r.2.2.1.1.2.2.2) (by rw[aO];exact HLN.out.1) rfl rfl rfl rfl ?_;intro v1 w1 hO1 hb1;have HO1:=hid hO1;have HBA:=hid hb1;clear hO1 hb1)
         | (at_builtin
            refine lK nK _ _ rfl _ _ (.slice ma so.es.length mc) (aN el) (aN elm) rfl rfl HO1.out (F.r.1.now.1.below HBA.out) (gP _) (cA.lV F.r.1.now.2) (by rw[aO,aO];exact HLN.out.2) HBA.out.size rfl ?_;intro v2 w hO2 hg2 hv2 hb2;have hb12:=HBA.out.trans hb2;rw[<- gF]at hO2;obtain⟨n2,hn2⟩:∃n2,(es++so.es).length=n2:=⟨_,rfl⟩;have HN2:=hid hn2;obtain⟨na,nc,rfl⟩:∃a c,v2 = .slice a n2 c:=by obtain⟨a,c,e⟩:=hO2.shape;rw[aO,List.length_append,HLE.out,HML.out,<- List.length_append,hn2]at e;exact⟨a,c,e⟩
            replace F:=(F.call hb12).put (aFr hO2 ((F.call hb12).saf.imp fun u q=>(q.2.2.2.and q.1).imp fun x y=>cA.app y.1.2.2.2 y.2.2) F.few fun i q=>q.elim (fun q=>q.elim (F.lim i) fun q=>(F.r.2.2.1.2.lt i q).2) fun q=>Nat.lt_of_lt_of_le (HB1.out i (.inr q)) F.r.2.2.1.1.1);have PH:=hid True.intro;clear C HO1 HBA hO2 hg2 hv2 hb2 hb12 hn2;refine fx fun C=>?_)
         | (at_builtin
            try (refine stq ?_;clear C;intro w F C)
            refine fA aKV _ _ rfl bz _ (fs.map rwf) _ (rwf ⟨nn,so.es.length,so.g⟩) rfl rfl F.r.2.2.2.1.2 rfl (fun j u hj=>((F.box 5 _ rfl).2 j u hj).1) (by intro u hu;simp only[rwf,List.mem_cons,List.not_mem_nil,or_false]at hu;rcases hu with rfl|rfl|rfl<;>rfl) (by rw[List.length_map];omega) F.r.2.2.2.1.1.1 rfl ?_;intro v3 w hO3 hk3 hn3 hb3;have hO4:dU w bz 276 3 v3 ((fs ++ [(⟨nn,so.es.length,so.g⟩:WF)]).map rwf):=by rw[List.map_append];exact hO3
            obtain⟨n3,hq3⟩:∃n3,(fs ++ [(⟨nn,so.es.length,so.g⟩:WF)]).length=n3:=⟨_,rfl⟩;have HN3:=hid hq3;obtain⟨va,vc,rfl⟩:∃a c,v3 = .slice a n3 c:=by obtain⟨a,c,e⟩:=hO4.shape;rw[List.length_map,hq3]at e;exact⟨a,c,e⟩
            replace F:=(F.first 4).aLb HLZ.out F.r.2.2.2.1.2 ((F.r.2.2.2.2.and F.r.1).imp fun u q=>And.intro q.1.1 (And.intro q.1.2.1 q.2)) HB0.out HB1.out (Kept.cJ hk3) hn3 hO4;simp only[List.take_succ_cons,List.take_zero]at F;clear C hO3 hb3 hk3 hn3 hO4 hq3;refine fx fun C=>?_)
         | (have PH1:=PH;clear PH1;refine stq ?_;clear C;intro w F C))
        go_roundw
        case rel =>
         obtain rfl:=HN2.out;obtain rfl:=HN3.out;exact⟨ii+1,⟨_,es++so.es,fs ++ [(⟨nn,so.es.length,so.g⟩:WF)],safe⟩,_,_,_,_,el++elm,by simp[xF],by first|rfl|(congr 1),by omega,by rw[List.map_append,HEL.out,HM.out],by rw[<- HRR.out];exact HV.out,HK2.out,F⟩
        case measure=>simp[intOf];omega
     ·have hfb:((so.f:Int) != (nn:Int))=true:=by simp;omega
      have HF:Hid ((cZ f.all).f≠bB (aP f.name)):=hid (by rw[HSO.out,HNN.out];exact hf);clear hf;by_cases hiz:(ii:Int)=z
      ·have HV:=hid (HLD.out.symm.trans (aFL HW.out (HRN.out.2 hiz) HF.out));have hib:((ii:Int) != z)=false:=by simp[hiz]
       clear hiz;refine fx fun C=>?_
       go_wp2_with (refine stq ?_;clear C;intro w F C)
       clear C;refine(rY (F.ins fun _ h=>h.2.2.1.1.2.1) HG.out f.name).mono ?_;rintro e w ⟨a1,c1,rfl,hs,hb⟩;replace F:=F.next hb hs;clear hb hs;generalize removeD D f.name=r at *
       obtain⟨D1,e1⟩:=r;simp only[dv];by_cases hfe:fs = []
       ·have HZ:Hid (fs.length=0):=hid (by rw[hfe];rfl);have HFE:=hid hfe;have hz0:¬(0:Int)<(fs.length:Int):=by rw[HZ.out];decide
        clear hfe;refine fx fun C=>?_
        go_wp2_with (refine stq ?_;clear C;intro w F C)
        clear C;refine rg (⟨⟩:Pm [0,0,0,0,1,19,55,127] 16 [.h [0,1,2,3],.o 4,.o 5,.h [6,7]] [false,true,true]) ?_;intro w F C
        go_wp2_with (refine stq ?_;clear C;intro w F C)
        refine rt Tryz.results187 ?_;refine⟨kk,HTOP.out,?_⟩;rw[HV.out];exact⟨_,_,_,_,_,_,_,_,rfl,fun _=>rfl,F.fin (fun _ h=>⟨h.1,HEL.out,h.2.2.2.1.1.2.2,bJ.gH h.2.2.2.1.2⟩),F.bel⟩
       ·obtain⟨g,hg⟩:∃g,fs.getLast? = some g:=⟨fs.getLast hfe,List.getLast?_eq_some_getLast hfe⟩;obtain⟨j,hj⟩:∃j,fs.length=j+1:=⟨fs.length-1,by have:=List.length_pos_iff.2 hfe;omega⟩;have hgj:fs[j]? = some g:=by rw[List.getLast?_eq_getElem?]at hg;rw[<- hg];congr 1;omega
        obtain⟨gb,go,rfl,_⟩:=bJ.aEO (bJ.gH F.r.2.2.2.1.2) hgj;replace F:=F.put (F.get fun _ h=>bJ.aDJ (bJ.gH h.2.2.2.1.2) hgj);have hz0:(0:Int)<(fs.length:Int):=by omega
        have hz1:(fs.length:Int)-1=(j:Int):=by omega
        have hz2:j<fs.length:=by omega
        have HLG:Hid (xF ⟨lb,es,fs,safe⟩=g.s):=hid (by unfold xF;simp only[hg];rfl);clear hfe hg hj hgj;refine fx fun C=>?_
        go_wp2_with (refine stq ?_;clear C;intro w F C)
        clear C;refine rg (⟨⟩:Pm [0,0,0,0,1,19,55,127] 16 [.h [0,1,2,3],.o 4,.o 5,.h [6,7]] [false,true,true]) ?_;intro w F C
        go_wp2_with (refine stq ?_;clear C;intro w F C)
        refine rt Tryz.results187 ?_;refine⟨kk,HTOP.out,?_⟩;rw[HV.out];exact⟨_,_,_,_,_,_,_,_,rfl,fun _=>by rw[HLG.out],F.fin (fun _ h=>⟨h.2.1,HEL.out,h.2.2.2.2.1.1.2.2,bJ.gH h.2.2.2.2.1.2⟩),F.bel⟩
      ·have HV:=hid (HLD.out.symm.trans (tL (L:=⟨lb,es,fs,safe⟩) HW.out (fun q=>hiz (HRN.out.1 q.2)) (.inl HF.out)));have hib:((ii:Int) != z)=true:=by simp[hiz]
       clear hiz;refine fx fun C=>?_
       go_wp2_with (refine stq ?_;clear C;intro w F C)
       clear C;refine rg (⟨⟩:Pm [0,0,1,7,15,31] 4 [.h [0,1],.o 2,.o 3,.h [4,5]] [false,true,true]) ?_;intro w F C
       go_wp2_with (refine stq ?_;clear C;intro w F C)
       refine rt Tryz.results187 ?_;refine⟨kk,HTOP.out,?_⟩;rw[HV.out];exact⟨_,_,_,_,_,_,_,_,rfl,nofun,F.fin (fun _ h=>⟨h.2.2.1.1.2.1,HEL.out,h.2.2.1.1.2.2,bJ.gH h.2.2.1.2⟩),F.bel⟩
   ·have HV:Hid (loadR D (D.files.take kk) ⟨0,[],[],0⟩=(D,⟨lb,es,fs,safe⟩,0)):=hid (by rw[<- hld,List.drop_eq_nil_of_le (by rw[List.length_take];omega)];rfl);clear hld;refine fx fun C=>?_;go_wp2_with fail;clear C;refine rg (⟨⟩:Pm [0,0,0,1,11,31,63] 8 [.h [0,1,2],.o 3,.o 4,.h [5,6]] [false,true,true]) ?_;intro w F C
    go_wp2_with (refine stq ?_;clear C;intro w F C)
    refine rt Tryz.results187 ?_;refine⟨kk,HTOP.out,?_⟩;rw[HV.out];exact⟨_,_,_,_,_,_,_,_,rfl,fun _=>rfl,F.fin (fun _ h=>⟨h.1.1.2.1,HEL.out,h.1.1.2.2,bJ.gH h.1.2⟩),F.bel⟩
theorem aI7 {S:Nat->Prop}{w:World}{D:aA}{a:Option Addr}{c:Nat}(h:In S w (DR D a c))(hg:aY D)(hc:Calm D)(hr:bQ D.files)(h8:kE D.files)(hst:D.steps+1000<=1000000000)(base:Nat):Calls Tryz.prog 141 #[dv D a c,.int .u64 base] w (QL S (OW D base) w):=by
 have F:=h.fr;obtain⟨bz,hbz⟩:∃bz:Int,(base:Int)=bz:=⟨_,rfl⟩;have HBZ:=hid hbz;have HG:=hid hg;have HC:=hid hc;have HR:=hid hr;have H8:=hid h8;have HST:=hid hst;rw[hbz];obtain⟨room,L,down,armed,steps⟩:=D;obtain⟨rfl,rfl⟩:down=false/\armed = -1:=hc;unfold dv;by_cases hb:H59<=base
 ·have HV:=hid (aA2 HC.out.1 hb);have hbi:(576460752303423488:Int)<=bz:=by unfold H59 at hb;omega
  clear h hg hr h8 hst hb hbz;go_enter Tryz.func141,Tryz.ntmps141;refine fx fun C=>?_
  go_wp2_with (refine stq ?_;clear C;intro w F C)
  refine rt Tryz.results141 ?_;rw[HV.out];exact⟨_,_,none,0,none,0,[],rfl,F.fin (fun _ h=>⟨h,LR.nil _ _⟩),F.bel⟩
 ·have HB:Hid (base<H59):=hid (by omega);have hbi:¬(576460752303423488:Int)<=bz:=by unfold H59 at hb;omega
  clear h hg hr h8 hst hb hbz;go_enter Tryz.func141,Tryz.ntmps141;go_wp2_with fail;refine stq ?_;intro w F C;clear C;refine(aI1 (F.ins fun _ h=>h) HG.out (by have:=HST.out;(try simp only at *);omega) H8.out).mono ?_;rintro e w ⟨kk,htop,hq⟩;obtain⟨hL,hlf,hlk⟩:=rA HG.out HC.out HR.out H8.out HST.out htop;rw[hL]at hq;obtain⟨r1,hr1⟩:∃r,loadW (dH ⟨room,L,false,-1,steps⟩) ⟨room,L,false,-1,steps⟩ ⟨0,[],[],0⟩=r:=⟨_,rfl⟩;rw[hr1]at hq hlf hlk;obtain⟨D1,L1,k1⟩:=r1;obtain⟨aD,cD,ea,ec,fa,fc,el,zz,rfl,hz,hs,hb⟩:=hq;replace F:=(F.next hb hs).vL fun _ h=>h.1;have HR1:=hid hr1;have HLF:=hid hlf;have HLK:=hid hlk;obtain⟨lb,es,fs,safe⟩:=L1;clear htop hL hb hs hr1 hlf hlk;simp only[dv,lgv]at F hz ⊢;by_cases hk:k1=0
  ·subst hk;obtain rfl:=hz rfl;clear hz;by_cases hfe:fs = []
   ·obtain⟨HV,HRS⟩:Hid (OW ⟨room,L,false,-1,steps⟩ base=((bA D1 ⟨lb,es,fs,safe⟩ base).1,⟨base,[],[],0⟩,0))/\Hid (bA D1 ⟨lb,es,fs,safe⟩ base=((bA D1 ⟨lb,es,fs,safe⟩ base).1,⟨base,[],[],0⟩,0)):=by
     have q:=oN HC.out.1 HB.out HR1.out (D4:=D1) (by unfold bU;simp only[hfe];rfl) HLF.out (.inl hfe);exact⟨hid q.1,hid q.2⟩
    have hz0:¬(0:Int)<(fs.length:Int):=by rw[hfe];decide
    have hz1:((fs.length:Int)==0)=true:=by rw[hfe];rfl
    have HG1:Hid (aY D1/\D1.steps<=steps+128):=hid ⟨HLK.out.2.2.1,HLK.out.2.2.2⟩;clear hfe;refine fx fun C=>?_
    go_wp2_with (refine stq ?_;clear C;intro w F C)
    clear C;have WR:=vY (F.ins fun _ h=>h) HG1.out.1 HLK.out.1 (by have:=HG1.out.2;have:=HLK.out.2.1;have:=HST.out;(try simp only at *);omega) (by have:=HLK.out.2.1;show fs.length<=1000000;omega) base;rw[HBZ.out,HRS.out]at WR;refine WR.mono ?_;clear WR;rintro e w ⟨a6,c6,ea6,ec6,fa6,fc6,el6,rfl,hs,hb⟩;replace F:=(F.next hb hs).vL fun _ h=>h.1;clear hb hs;generalize (bA D1 ⟨lb,es,fs,safe⟩ base).1=D6 at *
    simp only[dv,lgv,List.length_nil]at F ⊢;rw[HBZ.out];have hbb:¬bz<bz:=Int.lt_irrefl bz;refine fx fun C=>?_
    go_wp2_with (refine stq ?_;clear C;intro w F C)
    clear C;refine rg (⟨⟩:Pm [0,0,1,7,15] 4 [.h [0,1],.o 2,.o 3,.h [4]] [false,true,true]) ?_;intro w F C
    go_wp2_with (refine stq ?_;clear C;intro w F C)
    refine rt Tryz.results141 ?_;rw[HV.out];exact⟨a6,c6,ea6,ec6,fa6,fc6,el6,by unfold dv lgv;rw[<- HBZ.out];rfl,F.fin (fun _ h=>h),F.bel⟩
   ·obtain⟨g,hlast⟩:∃g,fs.getLast? = some g:=⟨fs.getLast hfe,List.getLast?_eq_some_getLast hfe⟩;obtain⟨j,hj⟩:∃j,fs.length=j+1:=⟨fs.length-1,by have:=List.length_pos_iff.2 hfe;omega⟩;have hgj:fs[j]? = some g:=by rw[List.getLast?_eq_getElem?]at hlast;rw[<- hlast];congr 1;omega
    obtain⟨gb,go,rfl,_⟩:=bJ.aEO F.r.2.fr hgj;replace F:=F.put (F.get fun _ h=>bJ.aDJ h.2.fr hgj);obtain⟨f,hf⟩:=HLF.out.find (List.mem_of_getLast? hlast);obtain⟨i,hI,hLi⟩:=eR hf;obtain⟨pb,po,rfl,_⟩:=bJ.file F.r.2.1 hLi;replace F:=F.put (F.get fun _ h=>bJ.jW h.2.1 hLi);have hil:=(List.getElem?_eq_some_iff.1 hLi).1;have hnm:=HLK.out.1.nm g (List.mem_of_getLast? hlast);have HNM:=hid hnm;have HI:=hid hI;have HSC:=hid (pG HLF.out hlast hf);have hz0:(0:Int)<(fs.length:Int):=by omega
    have hz2:(fs.length:Int)-1=(j:Int):=by omega
    have hz3:j<fs.length:=by omega
    have hzb:((fs.length:Int)==0)=false:=by simp;omega
    have HFE:=hid hfe;have hfl1:(fs.length:Int)<=128:=by have:=HLK.out.2.1;simp only at this;omega
    rw[show xF ⟨lb,es,fs,safe⟩=g.s by unfold xF;simp only[hlast];rfl];have HFW:Hid (D1.files.length<=1000):=hid (by have:=HLK.out.2.2.1.few;simp only at this;omega);clear hlast hj hgj hf hI hLi hnm hfe;by_cases hcut:g.s<f.all.length
    ·skip
     have hcz:(g.s:Int)<((bX f.all).size:Int):=by rw[cH];omega
     refine fx fun C=>?_
     go_wp2_with (refine stq ?_;clear C;intro w F C)
     clear C;refine(tR g.f w HNM.out.1 HNM.out.2).mono ?_;rintro e w ⟨rfl,hb⟩;replace F:=F.call hb;clear hb;go_wp2_with fail;refine rg (⟨⟩:Pm [0,1,0,0,12,31,63,127,255] 16 [.h [0,1,2,3],.o 4,.h [5,6,7,8]] []) ?_;intro w F C;go_wp2_with fail;refine(lD (F.ins fun _ h=>h.2.2.1) (aK g.f) HFW.out).mono ?_;rintro e w ⟨rfl,hb⟩;rw[HI.out];replace F:=F.call hb;clear C hb;go_wp2_with fail;revert w;refine rc ?_;intro w F C
     go_wp2_with (refine stq ?_;clear C;intro w F C)
     refine(aJE (F.ins fun _ h=>h.2.2.1) HLK.out.2.2.1 (aK g.f) (g.s:Int)).mono ?_;rintro e w ⟨a3,c3,rfl,hs,hb⟩;replace F:=F.next hb hs;have HCC:=hid (HSC.out.1 hcut);have HGC:=hid (aY.cut HLK.out.2.2.1 (aK g.f) (g.s:Int) (by have:=HLK.out.2.2.2;have:=HST.out;(try simp only at *);omega));have HLF4:=hid HSC.out.2.2.2;clear C hs hb HSC hcut;rw[HCC.out.2.2]at HLF4;generalize cutD D1 (aK g.f) g.s=r3 at *
     obtain⟨D3,e3⟩:=r3;obtain rfl:e3=0:=HCC.out.1;have hcc:=HCC.out.2;have HG3:Hid (aY D3/\D3.steps<=steps+129):=hid ⟨HGC.out.1,by have:=HGC.out.2;have:=HLK.out.2.2.2;(try simp only at *);omega⟩;have HG4:Hid (aY (syncD D3 (aK g.f)).1/\(syncD D3 (aK g.f)).1.steps<=steps+130):=hid (by have q:=HG3.out.1.sync (aK g.f) (by have:=HG3.out.2;have:=HST.out;(try simp only at *);omega);exact⟨q.1,by have:=q.2;have:=HG3.out.2;omega⟩);clear HCC HGC;simp only[dv]at hcc HLF4 ⊢;have HCC:=hid hcc;clear hcc;refine fx fun C=>?_
     go_wp2_with (refine stq ?_;clear C;intro w F C)
     refine(xW (F.ins fun _ h=>h.1) HG3.out.1 (aK g.f)).mono ?_;rintro e w ⟨a4,c4,rfl,hs,hb⟩;replace F:=(F.next hb hs).vL fun _ h=>And.intro h.1 h.2.2.2.2.2;clear C hs hb;generalize syncD D3 (aK g.f)=r4 at *
     obtain⟨D4,e4⟩:=r4;obtain rfl:e4=0:=HCC.out.1;simp only[dv]at HLF4 HG4 ⊢;by_cases hlt:lb+es.length<base
     ·obtain⟨HV,HRS⟩:Hid (OW ⟨room,L,false,-1,steps⟩ base=((bA D4 ⟨lb,es,fs,safe⟩ base).1,⟨base,[],[],0⟩,0))/\Hid (bA D4 ⟨lb,es,fs,safe⟩ base=((bA D4 ⟨lb,es,fs,safe⟩ base).1,⟨base,[],[],0⟩,0)):=by
       have q:=oN HC.out.1 HB.out HR1.out HCC.out.2 HLF4.out (.inr (by unfold aQ.last;exact hlt));exact⟨hid q.1,hid q.2⟩
      have hlz:(lb:Int)+(es.length:Int)<bz:=by have:=HBZ.out;omega
      clear hlt;refine fx fun C=>?_
      go_wp2_with (first
       | (refine (lE ⟨lb, es, fs, safe⟩ ea ec (some ⟨gb, go, none⟩) fc w (by have := HLK.out.1.last; omega)).mono ?_
          rintro e w ⟨rfl,hb⟩;replace F:=F.call hb;clear C hb;rw[show ((aQ.last ⟨lb,es,fs,safe⟩:Nat):Int)=(lb:Int)+(es.length:Int) by unfold aQ.last;simp];refine fx fun C=>?_)
       | (refine stq ?_;clear C;intro w F C))
      clear C;have WR:=vY (F.ins fun _ h=>h) HG4.out.1 HLK.out.1 (by have:=HG4.out.2;have:=HLK.out.2.1;have:=HST.out;(try simp only at *);omega) (by have:=HLK.out.2.1;show fs.length<=1000000;omega) base;rw[HBZ.out,HRS.out]at WR;refine WR.mono ?_;clear WR;rintro e w ⟨a6,c6,ea6,ec6,fa6,fc6,el6,rfl,hs,hb⟩;replace F:=(F.next hb hs).vL fun _ h=>h.1;clear hb hs;generalize (bA D4 ⟨lb,es,fs,safe⟩ base).1=D6 at *
      simp only[dv,lgv,List.length_nil]at F ⊢;rw[HBZ.out];have hbb:¬bz<bz:=Int.lt_irrefl bz;refine fx fun C=>?_
      go_wp2_with (refine stq ?_;clear C;intro w F C)
      clear C;refine rg (⟨⟩:Pm [0,0,1,7,15] 4 [.h [0,1],.o 2,.o 3,.h [4]] [false,true,true]) ?_;intro w F C
      go_wp2_with (refine stq ?_;clear C;intro w F C)
      refine rt Tryz.results141 ?_;rw[HV.out];exact⟨a6,c6,ea6,ec6,fa6,fc6,el6,by unfold dv lgv;rw[<- HBZ.out];rfl,F.fin (fun _ h=>h),F.bel⟩
     ·have HNL:Hid (¬(fs = []\/aQ.last ⟨lb,es,fs,safe⟩<base)):=hid (fun q=>q.elim HFE.out fun q=>hlt (by unfold aQ.last at q;exact q));have hlz:¬(lb:Int)+(es.length:Int)<bz:=by have:=HBZ.out;omega
      clear hlt;by_cases hbl:base<lb
      ·have HV:=hid ((pM HC.out.1 HB.out HR1.out HCC.out.2 HNL.out).trans (if_pos hbl));have hbz:bz<(lb:Int):=by have:=HBZ.out;omega
       clear hbl;refine fx fun C=>?_
       go_wp2_with (first
        | (refine (lE ⟨lb, es, fs, safe⟩ ea ec (some ⟨gb, go, none⟩) fc w (by have := HLK.out.1.last; omega)).mono ?_
           rintro e w ⟨rfl,hb⟩;replace F:=F.call hb;clear C hb;rw[show ((aQ.last ⟨lb,es,fs,safe⟩:Nat):Int)=(lb:Int)+(es.length:Int) by unfold aQ.last;simp];refine fx fun C=>?_)
        | (refine stq ?_;clear C;intro w F C))
       refine rt Tryz.results141 ?_;rw[HV.out];exact⟨_,_,none,0,none,0,[],rfl,F.fin (fun _ h=>⟨h.1,LR.nil _ _⟩),F.bel⟩
      ·have HV:=hid ((pM HC.out.1 HB.out HR1.out HCC.out.2 HNL.out).trans (if_neg hbl));have hbz:¬bz<(lb:Int):=by have:=HBZ.out;omega
       clear hbl;refine fx fun C=>?_
       go_wp2_with (first
        | (refine (lE ⟨lb, es, fs, safe⟩ ea ec (some ⟨gb, go, none⟩) fc w (by have := HLK.out.1.last; omega)).mono ?_
           rintro e w ⟨rfl,hb⟩;replace F:=F.call hb;clear C hb;rw[show ((aQ.last ⟨lb,es,fs,safe⟩:Nat):Int)=(lb:Int)+(es.length:Int) by unfold aQ.last;simp];refine fx fun C=>?_)
        | (refine stq ?_;clear C;intro w F C))
       clear C;refine rg (⟨⟩:Pm [0,0,1,7,15] 4 [.h [0,1],.o 2,.o 3,.h [4]] [false,true,true]) ?_;intro w F C
       go_wp2_with (refine stq ?_;clear C;intro w F C)
       refine rt Tryz.results141 ?_;rw[HV.out];exact⟨a4,c4,ea,ec,_,fc,el,rfl,F.fin (fun _ h=>⟨h.1,h.2.es,h.2.er,h.2.fr⟩),F.bel⟩
    ·skip
     have hcz:¬(g.s:Int)<((bX f.all).size:Int):=by rw[cH];omega
     refine fx fun C=>?_
     go_wp2_with (refine stq ?_;clear C;intro w F C)
     clear C;refine(tR g.f w HNM.out.1 HNM.out.2).mono ?_;rintro e w ⟨rfl,hb⟩;replace F:=F.call hb;clear hb;go_wp2_with fail;refine rg (⟨⟩:Pm [0,1,0,0,12,31,63,127,255] 16 [.h [0,1,2,3],.o 4,.h [5,6,7,8]] []) ?_;intro w F C;go_wp2_with fail;refine(lD (F.ins fun _ h=>h.2.2.1) (aK g.f) HFW.out).mono ?_;rintro e w ⟨rfl,hb⟩;rw[HI.out];replace F:=F.call hb;clear C hb;go_wp2_with fail;revert w;refine rc ?_;intro w F C
     go_wp2_with (refine stq ?_;clear C;intro w F C)
     refine(xW (F.ins fun _ h=>h.2.2.1) HLK.out.2.2.1 (aK g.f)).mono ?_;rintro e w ⟨a4,c4,rfl,hs,hb⟩;replace F:=(F.next hb hs).vL fun _ h=>And.intro h.1 h.2.2.2.2;have HCC:=hid (HSC.out.2.1 hcut);have HLF4:=hid HSC.out.2.2.2;have HG4:Hid (aY (syncD D1 (aK g.f)).1/\(syncD D1 (aK g.f)).1.steps<=steps+130):=hid (by have q:=HLK.out.2.2.1.sync (aK g.f) (by have:=HLK.out.2.2.2;have:=HST.out;(try simp only at *);omega);exact⟨q.1,by have:=q.2;have:=HLK.out.2.2.2;(try simp only at *);omega⟩);clear C hs hb HSC hcut;rw[HCC.out.2]at HLF4;generalize syncD D1 (aK g.f)=r4 at *
     obtain⟨D4,e4⟩:=r4;obtain rfl:e4=0:=HCC.out.1;simp only[dv]at HLF4 HG4 ⊢;by_cases hlt:lb+es.length<base
     ·obtain⟨HV,HRS⟩:Hid (OW ⟨room,L,false,-1,steps⟩ base=((bA D4 ⟨lb,es,fs,safe⟩ base).1,⟨base,[],[],0⟩,0))/\Hid (bA D4 ⟨lb,es,fs,safe⟩ base=((bA D4 ⟨lb,es,fs,safe⟩ base).1,⟨base,[],[],0⟩,0)):=by
       have q:=oN HC.out.1 HB.out HR1.out HCC.out.2 HLF4.out (.inr (by unfold aQ.last;exact hlt));exact⟨hid q.1,hid q.2⟩
      have hlz:(lb:Int)+(es.length:Int)<bz:=by have:=HBZ.out;omega
      clear hlt;refine fx fun C=>?_
      go_wp2_with (first
       | (refine (lE ⟨lb, es, fs, safe⟩ ea ec (some ⟨gb, go, none⟩) fc w (by have := HLK.out.1.last; omega)).mono ?_
          rintro e w ⟨rfl,hb⟩;replace F:=F.call hb;clear C hb;rw[show ((aQ.last ⟨lb,es,fs,safe⟩:Nat):Int)=(lb:Int)+(es.length:Int) by unfold aQ.last;simp];refine fx fun C=>?_)
       | (refine stq ?_;clear C;intro w F C))
      clear C;have WR:=vY (F.ins fun _ h=>h) HG4.out.1 HLK.out.1 (by have:=HG4.out.2;have:=HLK.out.2.1;have:=HST.out;(try simp only at *);omega) (by have:=HLK.out.2.1;show fs.length<=1000000;omega) base;rw[HBZ.out,HRS.out]at WR;refine WR.mono ?_;clear WR;rintro e w ⟨a6,c6,ea6,ec6,fa6,fc6,el6,rfl,hs,hb⟩;replace F:=(F.next hb hs).vL fun _ h=>h.1;clear hb hs;generalize (bA D4 ⟨lb,es,fs,safe⟩ base).1=D6 at *
      simp only[dv,lgv,List.length_nil]at F ⊢;rw[HBZ.out];have hbb:¬bz<bz:=Int.lt_irrefl bz;refine fx fun C=>?_
      go_wp2_with (refine stq ?_;clear C;intro w F C)
      clear C;refine rg (⟨⟩:Pm [0,0,1,7,15] 4 [.h [0,1],.o 2,.o 3,.h [4]] [false,true,true]) ?_;intro w F C
      go_wp2_with (refine stq ?_;clear C;intro w F C)
      refine rt Tryz.results141 ?_;rw[HV.out];exact⟨a6,c6,ea6,ec6,fa6,fc6,el6,by unfold dv lgv;rw[<- HBZ.out];rfl,F.fin (fun _ h=>h),F.bel⟩
     ·have HNL:Hid (¬(fs = []\/aQ.last ⟨lb,es,fs,safe⟩<base)):=hid (fun q=>q.elim HFE.out fun q=>hlt (by unfold aQ.last at q;exact q));have hlz:¬(lb:Int)+(es.length:Int)<bz:=by have:=HBZ.out;omega
      clear hlt;by_cases hbl:base<lb
      ·have HV:=hid ((pM HC.out.1 HB.out HR1.out HCC.out.2 HNL.out).trans (if_pos hbl));have hbz:bz<(lb:Int):=by have:=HBZ.out;omega
       clear hbl;refine fx fun C=>?_
       go_wp2_with (first
        | (refine (lE ⟨lb, es, fs, safe⟩ ea ec (some ⟨gb, go, none⟩) fc w (by have := HLK.out.1.last; omega)).mono ?_
           rintro e w ⟨rfl,hb⟩;replace F:=F.call hb;clear C hb;rw[show ((aQ.last ⟨lb,es,fs,safe⟩:Nat):Int)=(lb:Int)+(es.length:Int) by unfold aQ.last;simp];refine fx fun C=>?_)
        | (refine stq ?_;clear C;intro w F C))
       refine rt Tryz.results141 ?_;rw[HV.out];exact⟨_,_,none,0,none,0,[],rfl,F.fin (fun _ h=>⟨h.1,LR.nil _ _⟩),F.bel⟩
      ·have HV:=hid ((pM HC.out.1 HB.out HR1.out HCC.out.2 HNL.out).trans (if_neg hbl));have hbz:¬bz<(lb:Int):=by have:=HBZ.out;omega
       clear hbl;refine fx fun C=>?_
       go_wp2_with (first
        | (refine (lE ⟨lb, es, fs, safe⟩ ea ec (some ⟨gb, go, none⟩) fc w (by have := HLK.out.1.last; omega)).mono ?_
           rintro e w ⟨rfl,hb⟩;replace F:=F.call hb;clear C hb;rw[show ((aQ.last ⟨lb,es,fs,safe⟩:Nat):Int)=(lb:Int)+(es.length:Int) by unfold aQ.last;simp];refine fx fun C=>?_)
        | (refine stq ?_;clear C;intro w F C))
       clear C;refine rg (⟨⟩:Pm [0,0,1,7,15] 4 [.h [0,1],.o 2,.o 3,.h [4]] [false,true,true]) ?_;intro w F C
       go_wp2_with (refine stq ?_;clear C;intro w F C)
       refine rt Tryz.results141 ?_;rw[HV.out];exact⟨a4,c4,ea,ec,_,fc,el,rfl,F.fin (fun _ h=>⟨h.1,h.2.es,h.2.er,h.2.fr⟩),F.bel⟩
  ·have HV:=hid (aDl HC.out.1 HB.out HR1.out hk);have hkb:((k1:Int) != 0)=true:=by simp;omega
   clear hk hz;refine fx fun C=>?_
   go_wp2_with (refine stq ?_;clear C;intro w F C)
   refine rt Tryz.results141 ?_;rw[HV.out];exact⟨_,_,none,0,none,0,[],rfl,F.fin (fun _ h=>⟨h.1,LR.nil _ _⟩),F.bel⟩
