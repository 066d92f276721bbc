/- For scbodies_law_holds. -/
import Derived.Test.YtgeihgombjbkbaaGreatSbb11
set_option maxHeartbeats 16000000
namespace Go.Proofs.Own
open Go Go.RowKit Go.Proofs.YtgeihgombjbkbaaGreat

structure lE (w:World)(e:TypeId)(sz:Nat)(v:Value)(rs:List (List Value)):Prop where
 own:(v = .slice none 0 0/\rs = []) \/ ∃g cap cur,v = .slice (some ⟨g,0,none⟩) rs.length cap/\w.heap[g]? = some (.cells cur e (0,0))/\rs.length<=cap/\cap<=maxLen/\cap*sz<=cur.size/\cur.toList.take (rs.length*sz)=rs.flatten /\ ∀x,Value.int .u8 x ∉ cur.toList
 each:∀r ∈ rs,r.length=sz
theorem lE.nil (w:World)(e:TypeId)(sz:Nat):lE w e sz (.slice none 0 0) []:=⟨.inl ⟨rfl,rfl⟩,nofun⟩
def No8 (l:List Value):Prop:=∀x,Value.int .u8 x ∉ l
theorem No8.app {l m:List Value}(h:No8 l)(g:No8 m):No8 (l++m):=fun x hx=>(List.mem_append.1 hx).elim (h x) (g x)
theorem No8.take {l:List Value}(h:No8 l)(n:Nat):No8 (l.take n):=fun x hx=>h x (List.mem_of_mem_take hx)
theorem No8.drop {l:List Value}(h:No8 l)(n:Nat):No8 (l.drop n):=fun x hx=>h x (List.mem_of_mem_drop hx)
theorem No8.zero {z:Array Value}(h:No8 z.toList)(n:Nat):No8 (Builtin.zeroCells z n).toList:=by
 intro x hx;unfold Builtin.zeroCells at hx;rw[Array.mem_toList_iff,Array.mem_map]at hx;obtain⟨k,hk,e⟩:=hx;rw[Array.mem_range]at hk;have hz:0<z.size:=Nat.pos_of_ne_zero fun e=>by rw[e,Nat.mul_zero]at hk;omega
 have hlt:=Nat.mod_lt k hz;rw[getElem!_pos z (k % z.size) hlt]at e;refine h x ?_;rw[<- e];exact Array.mem_toList_iff.2 (Array.getElem_mem hlt)
theorem lE.made {w:World}{g:Nat}{e:TypeId}{sz:Nat}(hg:w.heap[g]? = some (.cells #[] e (0,0))):lE w e sz (.slice (some ⟨g,0,none⟩) 0 0) [] :=
 ⟨.inr ⟨g,0,#[],rfl,hg,Nat.le_refl _,Nat.zero_le _,by simp,by simp,by simp⟩,nofun⟩
theorem lE.shape {w:World}{e:TypeId}{sz:Nat}{v:Value}{rs:List (List Value)}(h:lE w e sz v rs):∃a c,v = .slice a rs.length c/\rs.length<=c:=by
 rcases h.own with ⟨rfl,rfl⟩|⟨g,cap,cur,rfl,_,hn,_⟩
 ·exact⟨none,0,rfl,Nat.le_refl _⟩
 ·exact⟨_,_,rfl,hn⟩
theorem aIt {w:World}{g j:Nat}{cur:Array Value}{e:TypeId}{u:Value}{fz:Nat × Nat}(hg:w.heap[g]? = some (.cells cur e fz))(hc:cur.toList[j]? = some u):w.cell? ⟨g,j,none⟩=some u:=by
 have h:cur[j]? = some u:=by rw[<- hc];simp
 simp[World.cell?,hg,h]
theorem lE.flat {w:World}{e:TypeId}{sz g n c:Nat}{rs:List (List Value)}(h:lE w e sz (.slice (some ⟨g,0,none⟩) n c) rs):∀j u,rs.flatten[j]? = some u->w.cell? ((⟨g,0,none⟩:Addr).add j)=some u:=by
 intro j u hu;rcases h.own with ⟨e1,_⟩|⟨g',cap,cur,e1,hg,hn,_,hs,ht⟩
 ·cases e1
 ·cases e1;rw[Addr.add_lit,Nat.zero_add];refine aIt hg ?_;rw[<- ht.1]at hu;have hlt:=(List.getElem?_eq_some_iff.1 hu).1;rw[List.length_take]at hlt;rw[List.getElem?_take_of_lt (by omega)]at hu;exact hu
def aAt (P:Program)(e:TypeId):Prop:=∀i z,P.info? e=some i->i.zero=some z->No8 z.cells.toList
theorem nK {P:Program}{t e:TypeId}{sz by':Nat}(I:cE P t e sz by')(w:World)(ty:TypeId)(v x:Value)(rs ns:List (List Value))
  (hown:lE w e sz v rs) (hs:aU w sz x ns) (hr:∀r ∈ ns,r.length=sz) (h1:∀r ∈ ns,∀u ∈ r,u.oneCell'=true) (h8:No8 ns.flatten) (hz8:aAt P e) (hlen:rs.length+ns.length<=4294967296) :
  ∃v' w',(Builtin.append_ #[t,t] ty #[v,x]).run P w = .ok v' w'/\lE w' e sz v' (rs++ns)/\w.grownBy w' v.ownBlock/\(v'.ownBlock=v.ownBlock\/v'.ownBlock=some w.heap.size):=by
 obtain⟨i,z,hi,hz,hsz,hb,hzs⟩:=I.info;have hu:=I.under;have hsr:=hs;have hdst:=hown;have hbytes:(rs.length+ns.length)*i.bytes<=140737488355328:=by
  have:=Nat.mul_le_mul (show rs.length+ns.length<=4294967296 by omega) I.few;rw[hb];omega
 have heach:∀r ∈ rs++ns,r.length=sz:=fun q hq=>(List.mem_append.1 hq).elim (hown.each q) (hr q);obtain⟨a,c,rfl,hc,hcell⟩:=hs;cases a with
 | none =>
  have hns:ns = []:=by
   rcases ns with _|⟨n,ns⟩
   ·rfl
   ·obtain⟨b,o,h,_⟩:=hcell 0 (by simp);cases h
  subst hns;refine⟨v,w,?_,by simpa using hown,World.grownBy.refl _ _,.inl rfl⟩;rcases hown.own with ⟨rfl,_⟩|⟨g,cap,cur,rfl,_,hnc,_⟩
  ·simp[Builtin.append_,run_underlying hu,sizeOf,typeInfo,hi,Builtin.lenOf,Builtin.firstCells]
  ·simp[Builtin.append_,run_underlying hu,sizeOf,typeInfo,hi,Builtin.lenOf,Builtin.firstCells,hnc,storeCells]
 | some ad =>
  have hnl:ns.flatten.length=ns.length*sz:=dU hr;have hnc:=aAk I.pos hsr hr;have hn1:∀u ∈ ns.flatten,u.oneCell'=true:=fun u hu=>by
   obtain⟨r,h2,h3⟩:=List.mem_flatten.1 hu;exact h1 r h2 u h3
  rcases hown.own with ⟨rfl,rfl⟩|⟨g,cap,cur,rfl,hg,hn,hcm,hcs,ht⟩
  ·by_cases h0:ns = []
   ·subst h0;refine⟨.slice none 0 0,w,?_,lE.nil _ _ _,World.grownBy.refl _ _,.inl rfl⟩;simp[Builtin.append_,run_underlying hu,sizeOf,typeInfo,hi,Builtin.lenOf,Builtin.firstCells,loadCells,loadCellsFrom]
   ·have hp:=List.length_pos_iff.2 h0;have h00:([]:List (List Value)).length=0:=rfl;rw[h00,Nat.zero_add]at hbytes hlen;have hrun:=run_append_nil (P:=P) w t ty e i z hu hi hz ad ns.length c ns.flatten (by rw[hnl,hsz]) hnc hp (by omega) (by omega);have hge:=grownCap_ge w ns.length 0 e;have hcm2:grownCap w ns.length 0 e<=maxLen:=grownCap_le_maxLen w ns.length 0 e (by unfold maxLen;omega);refine⟨_,_,hrun,⟨.inr ⟨w.heap.size,_,_,rfl,heap_alloc_new w.drew _,hge,hcm2,?_,?_,?_⟩,heach⟩,⟨rfl,rfl,rfl,by simp,fun k hk _=>Go.heap_alloc_old w.drew _ hk⟩,.inr rfl⟩
    ·simp only[Array.size_append,List.size_toArray,size_zeroCells,hzs,hnl,<- Nat.add_mul];refine Nat.mul_le_mul_right sz ?_;omega
    ·simp only[Array.toList_append,List.nil_append];rw[<- hnl];exact List.take_left
    ·rw[Array.toList_append];exact h8.app (No8.zero (hz8 i z hi hz) _)
  ·by_cases hroom:rs.length+ns.length<=cap
   ·have hm:=Nat.mul_le_mul_right sz hroom;rw[Nat.add_mul]at hm;have hfit:rs.length*i.size+ns.flatten.length<=cur.size:=by rw[hnl,hsz];omega
    have hrun:=run_append_room (P:=P) w t ty e i hu hi g rs.length cap cur hg ad ns.length c ns.flatten (by rw[hnl,hsz]) hnc hn1 hroom hfit;refine⟨_,_,hrun,⟨.inr ⟨g,cap,_,by rw[List.length_append],setRow_heap w g cur _ e _ hg,by rw[List.length_append];exact hroom,hcm,?_,?_,?_⟩,heach⟩,⟨rfl,rfl,rfl,by simp,fun k _ hk=>setRow_other w g k _ (fun e=>hk (by simp[Value.ownBlock,e]))⟩,.inl rfl⟩
    ·simp only[List.size_toArray,List.length_append,List.length_take,List.length_drop,Array.length_toList];rw[hnl,hsz]at *
     omega
    ·rw[hsz,ht.1,List.flatten_append,List.length_append,show (rs.length+ns.length)*sz=(rs.flatten++ns.flatten).length by rw[List.length_append,dU hown.each,hnl,Nat.add_mul]];exact List.take_left
    ·have h2:No8 cur.toList:=ht.2;exact((h2.take _).app h8).app (h2.drop _)
   ·have hrun:=run_append_grow (P:=P) w t ty e i z hu hi hz ⟨g,0,none⟩ rs.length cap rs.flatten (by rw[dU hown.each,hsz]) hdst.flat ad ns.length c ns.flatten (by rw[hnl,hsz]) hnc (by omega) (by omega) (growslice_fits (by omega) hbytes);have hge:=grownCap_ge w (rs.length+ns.length) cap e;have hcm2:grownCap w (rs.length+ns.length) cap e<=maxLen:=grownCap_le_maxLen w (rs.length+ns.length) cap e (by unfold maxLen;omega);refine⟨_,_,hrun,⟨.inr ⟨w.heap.size,_,_,by rw[List.length_append],heap_alloc_new w.drew _,by rw[List.length_append];exact hge,hcm2,?_,?_,?_⟩,heach⟩,⟨rfl,rfl,rfl,by simp,fun k hk _=>Go.heap_alloc_old w.drew _ hk⟩,.inr rfl⟩
    ·simp only[Array.size_append,List.size_toArray,size_zeroCells,hzs,dU hown.each,hnl,<- Nat.add_mul];refine Nat.mul_le_mul_right sz ?_;omega
    ·simp only[Array.toList_append,List.append_assoc];rw[<- List.append_assoc,List.flatten_append,List.length_append,show (rs.length+ns.length)*sz=(rs.flatten++ns.flatten).length by rw[List.length_append,dU hown.each,hnl,Nat.add_mul]];exact List.take_left
    ·simp only[Array.toList_append];refine No8.app ?_ (No8.zero (hz8 i z hi hz) _);have h2:No8 cur.toList:=ht.2;have h3:=h2.take (rs.length*sz);rw[ht.1]at h3;exact h3.app h8
section
variable {P:Program} {t e:TypeId} {sz by':Nat} (I:cE P t e sz by') {w:World} {o:Oper} {a:Act} {Q:Exit->Act->World->Prop} (s x:Operand)
 (ho:o.op = .call { callee:=.builtin .append,args:=#[s,x],argTypes:=#[t,t] }) (v xv:Value) (rs ns:List (List Value)) (hs:a.eval s=v) (hx:a.eval x=xv)
 (hown:lE w e sz v rs) (hsr:aU w sz xv ns) (hr:∀r ∈ ns,r.length=sz) (h1:∀r ∈ ns,∀u ∈ r,u.oneCell'=true) (h8:No8 ns.flatten) (hz8:aAt P e) (hlen:rs.length+ns.length<=4294967296)
include I ho hs hx hown hsr hr h1 h8 hz8 hlen
theorem qA {K:Act->World->Prop}
  (h:∀v' w',lE w' e sz v' (rs++ns)->w.grownBy w' v.ownBlock->(v'.ownBlock=v.ownBlock\/v'.ownBlock=some w.heap.size)->K (a.put o.dst v') w'):o.wp P a w K Q:=by
 obtain⟨v',w',hrun,k1,k2,k3⟩:=nK I w o.type v xv rs ns hown hsr hr h1 h8 hz8 hlen;unfold Oper.wp execOp;simp only[ho,resolve,invoke,builtin,Sem.run_bind,Sem.run_pure,Result.andThen_ok,List.map_toArray,List.map_cons,List.map_nil,hs,hx,hrun];exact h v' w' k1 k2 k3
theorem lN {ops:Array Oper}{rest:List Oper}(hgd:o.guard=none)
  (h:∀v' w',lE w' e sz v' (rs++ns)->w.grownBy w' v.ownBlock->(v'.ownBlock=v.ownBlock\/v'.ownBlock=some w.heap.size)->wpList P ops Q rest (a.put o.dst v') w') :
  wpList P ops Q (o::rest) a w :=
 wpList_plain hgd fun _ hK=>qA I s x ho v xv rs ns hs hx hown hsr hr h1 h8 hz8 hlen fun v' w' k1 k2 k3=>hK _ _ (h v' w' k1 k2 k3)
end
end Go.Proofs.Own
namespace Go.Proofs.YtgeihgombjbkbaaGreat
open Go.Lib (hid)
open Go.RowKit Go.Maps Go.Proofs.Own
def rng (m:Nat):List Int:=(List.range m).map fun i:Nat=>(i:Int)
theorem dJ (m:Nat):(rng m).length=m:=by simp[rng]
theorem aIX (m k:Nat)(h:k<(rng m).length):(rng m)[k]=(k:Int):=by simp[rng]
theorem pK (m:Nat):rng (m+1)=rng m ++ [(m:Int)]:=by simp[rng,List.range_succ]
theorem aIg:(Tryz.prog.info? 3).map (fun i=>(i.zero,i.size,i.bytes))=some (some (.int .i64 0),1,8):=by kernel_rfl
theorem sE:jF Tryz.prog 93 3 .i64 8:=⟨Tryz.underlying93,aIg⟩

theorem bJz (n:Int)(w:World)(h0:0<=n)(h7:n<7):Calls Tryz.prog 340 #[.int .i64 n] w fun e w'=>e = .returned (.bool true)/\w=w':=by
 go_enter Tryz.func340,Tryz.ntmps340
 go_wp2
 go_ret;exact⟨rfl,rfl⟩

def pw:Nat->Int
 | 0=>0
 | 1=>1
 | 2=>3
 | 3=>7
 | 4=>15
 | 5=>31
 | 6=>63
 | _=>127

theorem bOH (sv:Value)(m:Nat)(w:World)(hr:Reads w .i64 sv (rng m))(hm:m<=7) :
  Calls Tryz.prog 256 #[sv] w fun e w'=>e = .returned (.int .u64 (pw m))/\w=w':=by
 obtain⟨a,c,rfl,hc⟩:=hr;rw[dJ];have HC:Hid (∀j,j<m -> ∃b o,a=some ⟨b,o,none⟩/\w.cell? ⟨b,o+j,none⟩=some (.int .i64 j)):=hid fun j hj=>by
  obtain⟨b,o,h1,h2⟩:=hc j (by rw[dJ];exact hj);exact⟨b,o,h1,by rw[h2,aIX]⟩
 clear hc;go_enter Tryz.func256,Tryz.ntmps256
 go_wp2
 go_loopw [2,7] (fun s i wr=>∃k:Nat,k<=m/\i = .int .i64 k/\s = .int .u64 (pw k)/\wr=w) (fun _ i _=>m-(intOf i).toNat)
 case atStart=>exact⟨0,Nat.zero_le _,rfl,rfl,rfl⟩
 case round =>
  obtain⟨k,hk,rfl,rfl,rfl⟩:=hrel;by_cases hlt:k<m
  ·obtain⟨b,o,rfl,hcell⟩:=HC.out k hlt;have hk7:k=0\/k=1\/k=2\/k=3\/k=4\/k=5\/k=6:=by omega
   rcases hk7 with rfl|rfl|rfl|rfl|rfl|rfl|rfl
   all_goals
    (try (have hz:((0:Nat):Int)=0:=rfl);(try simp only[hz,Nat.add_zero]at hcell ⊢))
    simp only[pw]
    go_wp2_with (go_at_call 340;refine(bJz _ _ (by decide) (by decide)).mono ?_;rintro e w' ⟨rfl,rfl⟩)
    go_roundw
    case rel=>exact⟨_,hlt,by go_num,rfl,trivial⟩
    case measure=>simp[intOf];omega
  ·obtain rfl:k=m:=by omega
   go_wp2
   go_ret;exact⟨rfl,rfl⟩

theorem mof (m:Nat)(w:World)(hm:m<=7) :
  Calls Tryz.prog 255 #[.int .u64 (pw m)] w fun e w'=>∃v,e = .returned v/\bL w' w.heap.size 3 .i64 v (rng m)/\Below w.heap.size w w':=by
 go_enter Tryz.func255,Tryz.ntmps255
 go_wp2
 go_loopw [2,4] (fun d i wr=>∃k:Nat,k<=7/\i = .int .i64 k/\bL wr w.heap.size 3 .i64 d (rng (min k m))/\Below w.heap.size w wr) (fun _ i _=>7-(intOf i).toNat)
 case atStart=>exact⟨0,by omega,rfl,by simpa [rng] using bL.nil _ _ _ _,Below.refl _ _⟩
 case round =>
  obtain⟨k,hk,rfl,hown,hbl⟩:=hrel;obtain⟨a',c',rfl⟩:=hown.shape;have HO:=hid hown;have HB:=hid hbl;have hsz:=hbl.size;have hln:(rng (min k m)).length<=7:=by rw[dJ];omega
  clear hown hbl;by_cases hlt:k<7
  ·have hm8:m=0\/m=1\/m=2\/m=3\/m=4\/m=5\/m=6\/m=7:=by omega
   have hk7:k=0\/k=1\/k=2\/k=3\/k=4\/k=5\/k=6:=by omega
   have hi0:(0:Int)<=(k:Int):=by omega
   have hi7:(k:Int)<7:=by omega
   by_cases hkm:k<m
   ·have hb:(bits BinOp.and IntKind.u64 (pw m / 2 ^ k) 1==1)=true:=by
     rcases hm8 with rfl|rfl|rfl|rfl|rfl|rfl|rfl|rfl<;>rcases hk7 with rfl|rfl|rfl|rfl|rfl|rfl|rfl<;>first|omega|rfl|kernel_rfl
    have e1:min k m=k:=by omega
    have e2:min (k+1) m=k+1:=by omega
    have e3:(rng (min k m)).length=k:=by rw[dJ];omega
    have HE:=hid (show rng (min (k+1) m)=rng (min k m) ++ [(k:Int)] by rw[e1,e2,pK]);have wk:(Lit.int .i64 (k:Int)).wf=true:=by
     rcases hk7 with rfl|rfl|rfl|rfl|rfl|rfl|rfl<;>rfl
    clear e1 e2 hm8 hk7 e3
    go_wp2_with (at_builtin;refine aP sE _ _ rfl w.heap.size _ _ _ _ rfl rfl (HO.out.alloc _) (Reads.one _ _ _ _) (by decide) (by simp;omega) (by simp;omega) rfl ?_;intro v' w2 hown2 hgr hat hnil hbel)
    go_roundw
    case rel=>exact⟨k+1,by omega,by go_num,by rw[HE.out];exact hown2,HB.out.trans (((Below.refl _ _).alloc hsz _).trans hbel)⟩
    case measure=>simp[intOf];omega
   ·have hb:(bits BinOp.and IntKind.u64 (pw m / 2 ^ k) 1==1)=false:=by
     rcases hm8 with rfl|rfl|rfl|rfl|rfl|rfl|rfl|rfl<;>rcases hk7 with rfl|rfl|rfl|rfl|rfl|rfl|rfl<;>first|omega|rfl|kernel_rfl
    have e1:min k m=m:=by omega
    have e2:min (k+1) m=m:=by omega
    have HE:=hid (show rng (min (k+1) m)=rng (min k m) by rw[e1,e2]);clear e1 e2 hm8 hk7;go_wp2_with fail
    go_roundw
    case rel=>exact⟨k+1,by omega,by go_num,by rw[HE.out];exact HO.out,HB.out⟩
    case measure=>simp[intOf];omega
  ·obtain rfl:k=7:=by omega
   have h7:min 7 m=m:=by omega
   go_wp2
   go_ret;have:=HO.out;rw[h7]at this;exact⟨_,rfl,by rw[h7];exact this,HB.out⟩
theorem aMc (sa sb:Value)(l m:List Int)(w:World)(hr:Reads w .i64 sa l)(hs:Reads w .i64 sb m)(hl:l.length<=1000000)(hm:m.length<=1000000) :
  Calls Tryz.prog 339 #[sa,sb] w fun e w'=>e = .returned (.bool (decide (l=m)))/\Below w.heap.size w w':=by
 obtain⟨a,c,rfl,hc⟩:=hr;obtain⟨b,d,rfl,hd⟩:=hs;by_cases hll:l.length=m.length
 ·have hne:((l.length:Int) != (m.length:Int))=false:=by rw[hll];simp
  have HL:=hid hll;clear hll;go_enter Tryz.func339,Tryz.ntmps339
  go_wp2
  go_loopw [13] (fun i wr=>∃(k n:Nat),k<=l.length/\i = .int .i64 k/\l.take k=m.take k/\wr=w.drewN n) (fun i _=>l.length-(intOf i).toNat)
  case atStart=>exact⟨0,0,Nat.zero_le _,rfl,by simp,rfl⟩
  case round =>
   obtain⟨k,n,hk,rfl,ht,rfl⟩:=hrel;have HT:=hid ht;clear ht;by_cases hlt:k<l.length
   ·have hlm:k<m.length:=by have:=HL.out;omega
    obtain⟨b1,o1,rfl,h1⟩:=hc k hlt;obtain⟨b2,o2,rfl,h2⟩:=hd k hlm;have i0:(0:Int)<=(k:Int):=by omega
    have i1:(k:Int)<(l.length:Int):=by omega
    have i2:(k:Int)<(m.length:Int):=by omega
    by_cases he:l[k]=m[k]
    ·have hbe:(l[k] != m[k])=false:=by simp[he]
     have HE:=hid he;clear he
     go_wp2
     go_quiet (fail)
     go_wp2
     go_roundw
     case rel=>exact⟨k+1,_,by omega,by go_num,eW HT.out hlt hlm HE.out,rfl⟩
     case measure=>simp[intOf];omega
    ·have hbe:(l[k] != m[k])=true:=by simp[he]
     have HE:=hid he;clear he
     go_wp2
     go_quiet (fail)
     go_wp2
     go_ret;exact⟨mE (by rw[eq_comm,decide_eq_false_iff_not];intro e;subst e;exact HE.out rfl),gV (gV (Below.refl _ _) _) _⟩
   ·go_wp2
    go_ret;exact⟨mE (by rw[eq_comm,decide_eq_true_eq];have:=HT.out;rw[List.take_of_length_le (by omega),List.take_of_length_le (by have:=HL.out;omega)]at this;exact this),gV (Below.refl _ _) _⟩
 ·have hne:((l.length:Int) != (m.length:Int))=true:=by simp;omega
  have HL:=hid hll;clear hll;go_enter Tryz.func339,Tryz.ntmps339
  go_wp2
  go_ret;exact⟨mE (by rw[eq_comm,decide_eq_false_iff_not];intro e;exact HL.out (by rw[e])),Below.refl _ _⟩

theorem bJA (sa sb:Value)(l m:List Int)(w:World)(hr:Reads w .i64 sa l)(hs:Reads w .i64 sb m)(hl:l.length<=1000000)(hm:m.length<=1000000) :
  Calls Tryz.prog 254 #[sa,sb] w fun e w'=>e = .returned (.bool (decide (l=m)))/\Below w.heap.size w w':=by
 have HR:=hid hr;have HS:=hid hs;obtain⟨a,c,rfl⟩:=hr.shape;obtain⟨b,d,rfl⟩:=hs.shape;clear hr hs;go_enter Tryz.func254,Tryz.ntmps254
 go_wp2_with (go_at_call 339;refine(aMc _ _ l m _ HR.out HS.out hl hm).mono ?_;rintro e w' ⟨rfl,hb⟩)
 go_ret;exact⟨rfl,hb⟩

theorem aL2 (sv:Value)(m:Nat)(w:World)(hr:Reads w .i64 sv (rng m))(h1:1<=m)(h7:m<=7) :
  Calls Tryz.prog 186 #[sv] w fun e w'=>e = .returned (.bool true)/\Below w.heap.size w w':=by
 have HR:=hid hr;obtain⟨a,c,rfl⟩:=hr.shape;clear hr;have hlm:(rng m).length=m:=dJ m;have hgt:(0:Int)<((rng m).length:Int):=by omega
 have hlm':(rng m).length<=1000000:=by omega
 have hdec:decide (rng m=rng m)=true:=decide_eq_true rfl;clear hlm;go_enter Tryz.func186,Tryz.ntmps186;go_wp2_with fail;refine(bOH _ m _ HR.out h7).mono ?_;rintro e w1 ⟨rfl,rfl⟩;go_wp2_with fail;refine(mof m _ h7).mono ?_;rintro e w2 ⟨v,rfl,ho,hb⟩;obtain⟨a2,c2,rfl⟩:=ho.shape;have HO:=hid ho;have HB:=hid hb;clear ho hb;go_wp2_with fail;refine(bJA _ _ (rng m) (rng m) _ (HR.out.below HB.out) HO.out.reads hlm' hlm').mono ?_;rintro e w3 ⟨rfl,hb3⟩;go_wp2_with fail;go_ret;exact⟨rfl,HB.out.trans (hb3.mono HB.out.size)⟩

theorem aIW (sv:Value)(m:Nat)(w:World)(hr:Reads w .i64 sv (rng m))(h1:1<=m)(h7:m<=7) :
  Calls Tryz.prog 259 #[sv] w fun e w'=>e = .returned (.bool true)/\Below w.heap.size w w':=by
 obtain⟨a,c,rfl,hc⟩:=hr;have HC:Hid (∀j,j<m -> ∃b o,a=some ⟨b,o,none⟩/\w.cell? ⟨b,o+j,none⟩=some (.int .i64 j)):=hid fun j hj=>by
  obtain⟨b,o,h1,h2⟩:=hc j (by rw[dJ];exact hj);exact⟨b,o,h1,by rw[h2,aIX]⟩
 clear hc;rw[dJ];have hg1:¬(m:Int)<1:=by omega
 have hg7:¬(7:Int)<(m:Int):=by omega
 go_enter Tryz.func259,Tryz.ntmps259
 go_wp2
 go_loopw [3] (fun i wr=>∃(k n:Nat),k<=m/\i = .int .i64 k/\wr=w.drewN n) (fun i _=>m-(intOf i).toNat)
 case atStart=>exact⟨0,0,Nat.zero_le _,rfl,rfl⟩
 case round =>
  obtain⟨k,n,hk,rfl,rfl⟩:=hrel;by_cases hlt:k<m
  ·obtain⟨b,o,rfl,hcell⟩:=HC.out k hlt;have hprev:0<k->w.cell? ⟨b,o+(k-1),none⟩=some (.int .i64 (k-1:Nat)):=fun h0=>by
    obtain⟨b',o',hb',hcell'⟩:=HC.out (k-1) (by omega);obtain⟨rfl,rfl⟩:b=b'/\o=o':=by simpa using hb'
    exact hcell'
   have hmi:(k:Int)<(m:Int):=by omega
   have hpi:(k:Int)-1<(m:Int):=by omega
   have hk7:k=0\/k=1\/k=2\/k=3\/k=4\/k=5\/k=6:=by omega
   rcases hk7 with rfl|rfl|rfl|rfl|rfl|rfl|rfl
   ·have hz:((0:Nat):Int)=0:=rfl;simp only[hz,Nat.add_zero]at hcell hmi ⊢;clear hprev hpi hz
    go_wp2
    go_quiet (fail)
    go_wp2
    go_roundw
    case rel=>exact⟨1,_,by omega,by go_num,rfl⟩
    case measure=>simp[intOf];omega
   all_goals
    have hp:=hprev (by decide);have hz:((0:Nat):Int)=0:=rfl;have hw0:IntKind.i64.wrap 0=0:=rfl;have hm0:(0:Int)<(m:Int):=by omega
    simp only[Nat.reduceSub,hz,Nat.add_zero]at hp;clear hprev hpi hz
    go_wp2
    go_quiet (fail)
    go_wp2
    go_roundw
    case rel=>exact⟨_,_,hlt,by go_num,rfl⟩
    case measure=>simp[intOf];omega
  ·obtain rfl:k=m:=by omega
   go_wp2
   go_ret;exact⟨rfl,gV (Below.refl _ _) _⟩

theorem aI0 (sv:Value)(m:Nat)(w:World)(hr:Reads w .i64 sv (rng m))(h1:1<=m)(h7:m<=7) :
  Calls Tryz.prog 189 #[sv] w fun e w'=>e = .returned (.bool true)/\Below w.heap.size w w':=by
 have HR:=hid hr;obtain⟨a,c,rfl⟩:=hr.shape;clear hr;go_enter Tryz.func189,Tryz.ntmps189
 go_wp2_with (go_at_call 259;refine(aIW _ m _ HR.out h1 h7).mono ?_;rintro e w' ⟨rfl,hb⟩)
 go_ret;exact⟨rfl,hb⟩
theorem aJt (S el bt ev rm:Int)(m:Nat)(w:World)(h1:1<=m)(h7:m<=7) :
  Calls Tryz.prog 91 #[.agg #[.int .i64 S,.int .i64 m,.int .i64 el,.int .i64 bt,.int .i64 ev,.int .i64 rm],.int .i64 0] w fun e w'=>∃v,e = .returned (.agg #[.int .i64 0,v,.int .i64 el,.int .i64 bt,.int .i64 ev])/\Reads w' .i64 v (rng m)/\Below w.heap.size w w':=by
 have hx0:¬(m:Int)<0:=by omega
 have hx1:(0:Int)<=(m:Int):=by omega
 have hx2:(0:Int)<(m:Int):=by omega
 have hx7:(m:Int)<=7:=by omega
 have hx8:¬(7:Int)<(m:Int):=by omega
 have hmax:max (m:Int) 0=m:=by omega
 have hmin:min (m:Int) 7=m:=by omega
 go_enter Tryz.func91,Tryz.ntmps91;go_wp2_with fail
 go_loopw [5,11] (fun d i wr=>∃k:Nat,k<=m/\i = .int .i64 k/\bL wr (w.heap.size+2) 3 .i64 d (rng k)/\Below (w.heap.size+2) ((w.alloc (.cells #[.int .i64 S,.int .i64 m,.int .i64 el,.int .i64 bt,.int .i64 ev,.int .i64 rm] 25)).alloc (.cells #[.int .i64 0,.slice none 0 0,.int .i64 0,.int .i64 0,.int .i64 0] 175)) wr) (fun _ i _=>m-(intOf i).toNat)
 case atStart=>exact⟨0,by omega,rfl,by simpa [rng] using bL.nil _ _ _ _,Below.refl _ _⟩
 case round =>
  obtain⟨k,hk,rfl,hown,hbl⟩:=hrel;obtain⟨a',c',rfl⟩:=hown.shape;have HO:=hid hown;have HB:=hid hbl;have hsz:=hbl.size;simp only[World.size_alloc]at hsz;have hln:(rng k).length<=7:=by rw[dJ];omega
  have c1:wr.cell? ⟨w.heap.size,1,none⟩=some (.int .i64 m):=Below.at hbl (by go_cell) (by show w.heap.size<w.heap.size+2;omega);have c2:wr.cell? ⟨w.heap.size,2,none⟩=some (.int .i64 el):=Below.at hbl (by go_cell) (by show w.heap.size<w.heap.size+2;omega);have c3:wr.cell? ⟨w.heap.size,3,none⟩=some (.int .i64 bt):=Below.at hbl (by go_cell) (by show w.heap.size<w.heap.size+2;omega);have c4:wr.cell? ⟨w.heap.size,4,none⟩=some (.int .i64 ev):=Below.at hbl (by go_cell) (by show w.heap.size<w.heap.size+2;omega);have hbs:w.heap.size<wr.heap.size:=by omega
  have hbs1:w.heap.size+1<wr.heap.size:=by omega
  clear hown hbl;by_cases hlt:k<m
  ·have hi0:(0:Int)<=(k:Int):=by omega
   have hi7:(k:Int)<7:=by omega
   have him:(k:Int)<(m:Int):=by omega
   have wk:(Lit.int .i64 (k:Int)).wf=true:=by
    have hk7:k=0\/k=1\/k=2\/k=3\/k=4\/k=5\/k=6:=by omega
    rcases hk7 with rfl|rfl|rfl|rfl|rfl|rfl|rfl<;>rfl
   go_wp2_with (at_builtin;refine aP sE _ _ rfl (w.heap.size+2) _ _ _ _ rfl rfl (HO.out.alloc _) (Reads.one _ _ _ _) (by decide) (by simp;omega) (by simp;omega) rfl ?_;intro v' w2 hown2 hgr hat hnil hbel)
   go_roundw
   case rel=>exact⟨k+1,by omega,by go_num,by rw[pK];exact hown2,HB.out.trans (((Below.refl _ _).alloc hsz _).trans hbel)⟩
   case measure=>simp[intOf];omega
  ·obtain rfl:k=m:=by omega
   have r0:wr.cell? ⟨w.heap.size+1,0,none⟩=some (.int .i64 0):=Below.at HB.out (by go_cell) (by show w.heap.size+1<w.heap.size+2;omega);have r1:wr.cell? ⟨w.heap.size+1,1,none⟩=some (.slice none 0 0):=Below.at HB.out (by go_cell) (by show w.heap.size+1<w.heap.size+2;omega);have r2:wr.cell? ⟨w.heap.size+1,2,none⟩=some (.int .i64 0):=Below.at HB.out (by go_cell) (by show w.heap.size+1<w.heap.size+2;omega);have r3:wr.cell? ⟨w.heap.size+1,3,none⟩=some (.int .i64 0):=Below.at HB.out (by go_cell) (by show w.heap.size+1<w.heap.size+2;omega);have r4:wr.cell? ⟨w.heap.size+1,4,none⟩=some (.int .i64 0):=Below.at HB.out (by go_cell) (by show w.heap.size+1<w.heap.size+2;omega);have f (j:Nat):wr.frozen? ⟨w.heap.size+1,j,none⟩=false:=by rw[HB.out.frozen (by show w.heap.size+1<w.heap.size+2;omega)];simp[go_sem]
   have f0:=f 0;have f1:=f 1;have f2:=f 2;have f3:=f 3;have f4:=f 4;clear f;go_wp2_with fail;generalize hw5:World.setCell (World.setCell (World.setCell (World.setCell (World.setCell _ _ _) _ _) _ _) _ _) _ _=w5;have hk5:Kept wr w5 (fun k=>k=w.heap.size+1):=by rw[<- hw5];exact((((Kept.setCell _ ⟨w.heap.size+1,0,none⟩ _).trans (Kept.setCell _ ⟨w.heap.size+1,1,none⟩ _)).trans (Kept.setCell _ ⟨w.heap.size+1,2,none⟩ _)).trans (Kept.setCell _ ⟨w.heap.size+1,3,none⟩ _)).trans (Kept.setCell _ ⟨w.heap.size+1,4,none⟩ _)
   have s0:w5.cell? ⟨w.heap.size+1,0,none⟩=some (.int .i64 0):=by rw[<- hw5];rw[cso (by simp)];rw[cso (by simp)];rw[cso (by simp)];rw[cso (by simp)];exact css (u:=.int .i64 0) (by exact r0)
   have s1:w5.cell? ⟨w.heap.size+1,1,none⟩=some (.slice a' (rng k).length c'):=by rw[<- hw5];rw[cso (by simp)];rw[cso (by simp)];rw[cso (by simp)];exact css (u:=.slice none 0 0) (by rw[cso (by simp)];exact r1)
   have s2:w5.cell? ⟨w.heap.size+1,2,none⟩=some (.int .i64 el):=by rw[<- hw5];rw[cso (by simp)];rw[cso (by simp)];exact css (u:=.int .i64 0) (by rw[cso (by simp)];rw[cso (by simp)];exact r2)
   have s3:w5.cell? ⟨w.heap.size+1,3,none⟩=some (.int .i64 bt):=by rw[<- hw5];rw[cso (by simp)];exact css (u:=.int .i64 0) (by rw[cso (by simp)];rw[cso (by simp)];rw[cso (by simp)];exact r3)
   have s4:w5.cell? ⟨w.heap.size+1,4,none⟩=some (.int .i64 ev):=by rw[<- hw5];exact css (u:=.int .i64 0) (by rw[cso (by simp)];rw[cso (by simp)];rw[cso (by simp)];rw[cso (by simp)];exact r4)
   have hrd:=HO.out.reads.kept hk5 fun b hb e=>by have:=(HO.out.lt b hb).1;omega
   have hfin:Below w.heap.size w w5:=by
    have h1:Below w.heap.size w wr:=((((Below.refl _ _).alloc (Nat.le_refl _) _).alloc (by simp) _)).trans (HB.out.mono (by omega));exact h1.trans (hk5.below (by omega) fun k hk=>by omega)
   clear hw5 r0 r1 r2 r3 r4 f0 f1 f2 f3 f4;refine bodyPost_ret (v:=.agg #[.int .i64 0,.slice a' (rng k).length c',.int .i64 el,.int .i64 bt,.int .i64 ev]) ?_ rfl ⟨_,rfl,hrd,hfin⟩;simp[results,Tryz.results91,go_sem,s0,s1,s2,s3,s4]

theorem aKt (S el bt ev rm:Int)(m:Nat)(w:World)(h1:1<=m)(h7:m<=7) :
  Calls Tryz.prog 95 #[.agg #[.int .i64 S,.int .i64 m,.int .i64 el,.int .i64 bt,.int .i64 ev,.int .i64 rm],.int .i64 0] w fun e w'=>∃v,e = .returned (.agg #[.int .i64 0,v,.int .i64 el,.int .i64 bt,.int .i64 ev])/\Reads w' .i64 v (rng m)/\Below w.heap.size w w':=by
 have hx0:¬(m:Int)<0:=by omega
 have hx1:(0:Int)<=(m:Int):=by omega
 have hx2:(0:Int)<(m:Int):=by omega
 have hx7:(m:Int)<=7:=by omega
 have hx8:¬(7:Int)<(m:Int):=by omega
 have hmax:max (m:Int) 0=m:=by omega
 have hmin:min (m:Int) 7=m:=by omega
 go_enter Tryz.func95,Tryz.ntmps95;go_wp2_with fail
 go_loopw [5,6] (fun d i wr=>∃k:Nat,k<=m/\i = .int .i64 k/\bL wr (w.heap.size+2) 3 .i64 d (rng k)/\Below (w.heap.size+2) ((w.alloc (.cells #[.int .i64 S,.int .i64 m,.int .i64 el,.int .i64 bt,.int .i64 ev,.int .i64 rm] 32)).alloc (.cells #[.int .i64 0,.slice none 0 0,.int .i64 0,.int .i64 0,.int .i64 0] 181)) wr) (fun _ i _=>m-(intOf i).toNat)
 case atStart=>exact⟨0,by omega,rfl,by simpa [rng] using bL.nil _ _ _ _,Below.refl _ _⟩
 case round =>
  obtain⟨k,hk,rfl,hown,hbl⟩:=hrel;obtain⟨a',c',rfl⟩:=hown.shape;have HO:=hid hown;have HB:=hid hbl;have hsz:=hbl.size;simp only[World.size_alloc]at hsz;have hln:(rng k).length<=7:=by rw[dJ];omega
  have c1:wr.cell? ⟨w.heap.size,1,none⟩=some (.int .i64 m):=Below.at hbl (by go_cell) (by show w.heap.size<w.heap.size+2;omega);have c2:wr.cell? ⟨w.heap.size,2,none⟩=some (.int .i64 el):=Below.at hbl (by go_cell) (by show w.heap.size<w.heap.size+2;omega);have c3:wr.cell? ⟨w.heap.size,3,none⟩=some (.int .i64 bt):=Below.at hbl (by go_cell) (by show w.heap.size<w.heap.size+2;omega);have c4:wr.cell? ⟨w.heap.size,4,none⟩=some (.int .i64 ev):=Below.at hbl (by go_cell) (by show w.heap.size<w.heap.size+2;omega);have hbs:w.heap.size<wr.heap.size:=by omega
  have hbs1:w.heap.size+1<wr.heap.size:=by omega
  clear hown hbl;by_cases hlt:k<m
  ·have hi0:(0:Int)<=(k:Int):=by omega
   have hi7:(k:Int)<7:=by omega
   have him:(k:Int)<(m:Int):=by omega
   have wk:(Lit.int .i64 (k:Int)).wf=true:=by
    have hk7:k=0\/k=1\/k=2\/k=3\/k=4\/k=5\/k=6:=by omega
    rcases hk7 with rfl|rfl|rfl|rfl|rfl|rfl|rfl<;>rfl
   go_wp2_with (at_builtin;refine aP sE _ _ rfl (w.heap.size+2) _ _ _ _ rfl rfl (HO.out.alloc _) (Reads.one _ _ _ _) (by decide) (by simp;omega) (by simp;omega) rfl ?_;intro v' w2 hown2 hgr hat hnil hbel)
   go_roundw
   case rel=>exact⟨k+1,by omega,by go_num,by rw[pK];exact hown2,HB.out.trans (((Below.refl _ _).alloc hsz _).trans hbel)⟩
   case measure=>simp[intOf];omega
  ·obtain rfl:k=m:=by omega
   have r0:wr.cell? ⟨w.heap.size+1,0,none⟩=some (.int .i64 0):=Below.at HB.out (by go_cell) (by show w.heap.size+1<w.heap.size+2;omega);have r1:wr.cell? ⟨w.heap.size+1,1,none⟩=some (.slice none 0 0):=Below.at HB.out (by go_cell) (by show w.heap.size+1<w.heap.size+2;omega);have r2:wr.cell? ⟨w.heap.size+1,2,none⟩=some (.int .i64 0):=Below.at HB.out (by go_cell) (by show w.heap.size+1<w.heap.size+2;omega);have r3:wr.cell? ⟨w.heap.size+1,3,none⟩=some (.int .i64 0):=Below.at HB.out (by go_cell) (by show w.heap.size+1<w.heap.size+2;omega);have r4:wr.cell? ⟨w.heap.size+1,4,none⟩=some (.int .i64 0):=Below.at HB.out (by go_cell) (by show w.heap.size+1<w.heap.size+2;omega);have f (j:Nat):wr.frozen? ⟨w.heap.size+1,j,none⟩=false:=by rw[HB.out.frozen (by show w.heap.size+1<w.heap.size+2;omega)];simp[go_sem]
   have f0:=f 0;have f1:=f 1;have f2:=f 2;have f3:=f 3;have f4:=f 4;clear f;go_wp2_with fail;generalize hw5:World.setCell (World.setCell (World.setCell (World.setCell (World.setCell _ _ _) _ _) _ _) _ _) _ _=w5;have hk5:Kept wr w5 (fun k=>k=w.heap.size+1):=by rw[<- hw5];exact((((Kept.setCell _ ⟨w.heap.size+1,0,none⟩ _).trans (Kept.setCell _ ⟨w.heap.size+1,1,none⟩ _)).trans (Kept.setCell _ ⟨w.heap.size+1,2,none⟩ _)).trans (Kept.setCell _ ⟨w.heap.size+1,3,none⟩ _)).trans (Kept.setCell _ ⟨w.heap.size+1,4,none⟩ _)
   have s0:w5.cell? ⟨w.heap.size+1,0,none⟩=some (.int .i64 0):=by rw[<- hw5];rw[cso (by simp)];rw[cso (by simp)];rw[cso (by simp)];rw[cso (by simp)];exact css (u:=.int .i64 0) (by exact r0)
   have s1:w5.cell? ⟨w.heap.size+1,1,none⟩=some (.slice a' (rng k).length c'):=by rw[<- hw5];rw[cso (by simp)];rw[cso (by simp)];rw[cso (by simp)];exact css (u:=.slice none 0 0) (by rw[cso (by simp)];exact r1)
   have s2:w5.cell? ⟨w.heap.size+1,2,none⟩=some (.int .i64 el):=by rw[<- hw5];rw[cso (by simp)];rw[cso (by simp)];exact css (u:=.int .i64 0) (by rw[cso (by simp)];rw[cso (by simp)];exact r2)
   have s3:w5.cell? ⟨w.heap.size+1,3,none⟩=some (.int .i64 bt):=by rw[<- hw5];rw[cso (by simp)];exact css (u:=.int .i64 0) (by rw[cso (by simp)];rw[cso (by simp)];rw[cso (by simp)];exact r3)
   have s4:w5.cell? ⟨w.heap.size+1,4,none⟩=some (.int .i64 ev):=by rw[<- hw5];exact css (u:=.int .i64 0) (by rw[cso (by simp)];rw[cso (by simp)];rw[cso (by simp)];rw[cso (by simp)];exact r4)
   have hrd:=HO.out.reads.kept hk5 fun b hb e=>by have:=(HO.out.lt b hb).1;omega
   have hfin:Below w.heap.size w w5:=by
    have h1:Below w.heap.size w wr:=((((Below.refl _ _).alloc (Nat.le_refl _) _).alloc (by simp) _)).trans (HB.out.mono (by omega));exact h1.trans (hk5.below (by omega) fun k hk=>by omega)
   clear hw5 r0 r1 r2 r3 r4 f0 f1 f2 f3 f4;refine bodyPost_ret (v:=.agg #[.int .i64 0,.slice a' (rng k).length c',.int .i64 el,.int .i64 bt,.int .i64 ev]) ?_ rfl ⟨_,rfl,hrd,hfin⟩;simp[results,Tryz.results95,go_sem,s0,s1,s2,s3,s4]
