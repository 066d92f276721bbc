/- For vltopens_law_holds. -/
import Derived.Sort.KeysCollected
import Derived.Test.YtjdglpcnkiioeaaGreatVob25
import Derived.Test.YtjdglpcnkiioeaaGreatVob3
set_option maxHeartbeats 16000000
namespace Go.Proofs.YtjdglpcnkiioeaaGreat
open Go.Lib (hid)
open Go.RowKit Go.Maps Go.Proofs.Own

section
variable {H:Type}
def aGz (p q:Lit × DataW H):Prop:=p.1.before q.1=true
theorem mem_insert {x p:Lit × DataW H}:∀ {l:List (Lit × DataW H)},p ∈ DataW.insert x l->p=x\/p ∈ l
 | [],h=>by simpa [DataW.insert] using h
 | y::r,h=>by
  unfold DataW.insert at h;split at h
  ·rcases List.mem_cons.1 h with h|h
   ·exact .inl h
   ·exact .inr h
  ·rcases List.mem_cons.1 h with h|h
   ·exact .inr (h ▸ List.mem_cons_self)
   ·exact(mem_insert h).imp id (List.mem_cons_of_mem _)
theorem aAw {x:Lit × DataW H}{a:List UInt8}(hx:x.1 = .string a):∀ {l:List (Lit × DataW H)},l.Pairwise aGz->(∀y ∈ l,x.1≠y.1 /\ ∃b,y.1 = .string b)->(DataW.insert x l).Pairwise aGz
 | [],_,_=>by simp[DataW.insert]
 | y::r,hp,hd=>by
  obtain⟨hne,b,hy⟩:=hd y List.mem_cons_self;obtain⟨h1,h2⟩:=List.pairwise_cons.1 hp;unfold DataW.insert;split
  ·rename_i hb;refine List.pairwise_cons.2 ⟨fun z hz=>?_,hp⟩;rcases List.mem_cons.1 hz with rfl|hz
   ·exact hb
   ·obtain⟨_,c,hc⟩:=hd z (List.mem_cons_of_mem _ hz);have h3:=h1 z hz;unfold aGz at h3 ⊢;rw[hx,hy]at hb;rw[hy,hc]at h3;rw[hx,hc];exact WideShapes.bytes_trans _ _ _ hb h3
  ·rename_i hb;refine List.pairwise_cons.2 ⟨fun z hz=>?_,aAw hx h2 fun z hz=>hd z (List.mem_cons_of_mem _ hz)⟩;rcases mem_insert hz with rfl|hz
   ·unfold aGz;rw[hx,hy]at hb hne;rw[hx,hy];rcases WideAt.bytes_total a b (fun e=>hne (by rw[e])) with h|h
    ·exact absurd h hb
    ·exact h
   ·exact h1 z hz
theorem aB9:∀ {xs:List (Lit × DataW H)},xs.Pairwise (fun p q=>p.1≠q.1)->(∀p ∈ xs,∃a,p.1 = .string a)->(xs.foldr DataW.insert []).Pairwise aGz
 | [],_,_=>List.Pairwise.nil
 | x::r,hp,hs=>by
  obtain⟨h1,h2⟩:=List.pairwise_cons.1 hp;obtain⟨a,ha⟩:=hs x List.mem_cons_self;refine aAw ha (aB9 h2 fun p hp=>hs p (List.mem_cons_of_mem _ hp)) fun y hy=>?_;have hm:=mem_sorted.1 hy;exact⟨h1 y hm,hs y (List.mem_cons_of_mem _ hm)⟩
end

def bQ (L:List aJ):Prop:=L.Pairwise fun a b=>dS a.name b.name=true
theorem gT.rising {w:World}{mb:Nat}{vals:ByteArray->Value}{L:List aJ}(h:gT w mb vals L):bQ L:=by
 obtain⟨es',hD',hko⟩:=World.ownsMap.keysOf h;obtain⟨es,clock,hb,F,_,hD⟩:=h;have hD2:L.map (ent vals)=(es.toList.map (WideElems.rg Tryz.prog 9 gW)).foldr DataW.insert []:=by unfold dat at hD;injection hD
 have hp:=aB9 (Maps.fit_apart law F) (fun p hp=>by
  have h1:=mem_sorted.2 hp;rw[<- hD2]at h1;obtain⟨f,_,rfl⟩:=List.mem_map.1 h1;exact⟨_,rfl⟩)
 rw[<- hD2,List.pairwise_map]at hp;exact hp
theorem mW {a b:ByteArray}(h:dS a b=true):a≠b:=by
 rintro rfl;unfold dS at h;rw[WideAt.bytes_irrefl]at h;cases h
theorem aBo {a b:ByteArray}(h:dS a b=true):dS b a=false:=by
 cases h2:dS b a with
 | false=>rfl
 | true =>
  have:=WideShapes.bytes_trans _ _ _ h h2;rw[WideAt.bytes_irrefl]at this;cases this
theorem aBT:∀ {a b:List UInt8},bytesBefore a b=true->a<b
 | [],[],h=>by simp[bytesBefore]at h
 | [],y::s,_=>List.nil_lt_cons y s
 | x::r,[],h=>by simp[bytesBefore]at h
 | x::r,y::s,h=>by
  simp only[bytesBefore,Bool.or_eq_true,decide_eq_true_eq,Bool.and_eq_true,beq_iff_eq]at h;rcases h with h|⟨rfl,h⟩
  ·exact List.cons_lt_cons_iff.2 (.inl h)
  ·exact List.cons_lt_cons_iff.2 (.inr ⟨rfl,aBT h⟩)

def zJ (w:World)(v:Value)(ns:List ByteArray):Prop:=∃a c,v = .slice a ns.length c /\ ∀j (h:j<ns.length),∃b o,a=some ⟨b,o,none⟩/\w.cell? ⟨b,o+j,none⟩=some (.string ns[j])
theorem zJ.kept {w w':World}{v:Value}{ns:List ByteArray}{S:Nat->Prop}(h:zJ w v ns)(hk:Kept w w' S)(hs:∀b,v.ownBlock=some b -> ¬S b):zJ w' v ns:=by
 obtain⟨a,c,rfl,hc⟩:=h;refine⟨a,c,rfl,fun j hj=>?_⟩;obtain⟨b,o,rfl,h1⟩:=hc j hj;exact⟨b,o,rfl,hk.cell h1 (hs b rfl)⟩
theorem zJ.below {w w':World}{v:Value}{ns:List ByteArray}(h:zJ w v ns)(hb:Below w.heap.size w w'):zJ w' v ns :=
 h.kept (Kept.aL hb (S:=fun _=>False) fun k h1 h2=>by omega) fun _ _ h=>h

theorem aGZ (n:ByteArray):Go.Proofs.encStr n.data.toList = .string n:=by
 cases n;simp[Go.Proofs.encStr]
theorem sN {L:List aJ}(h:bQ L){ss:List (List UInt8)}{vals:ByteArray->Value}(hp:ss.Perm (strKeys (dat vals L))):(ss.mergeSort leB).map Go.Proofs.encStr=(L.map (·.name)).map Value.string:=by
 have hk:strKeys (dat vals L)=L.map fun f=>f.name.data.toList:=by
  show ((L.map (ent vals)).map fun p=>strOf p.1)=_;rw[List.map_map];rfl
 rw[mergeSort_of_perm hp,hk,List.mergeSort_of_pairwise,List.map_map,List.map_map]
 ·exact List.map_congr_left fun f _=>aGZ f.name
 ·rw[List.pairwise_map];exact h.imp fun h=>by
   simp only[leB,decide_eq_true_eq];exact List.le_of_lt (aBT h)

theorem aJV (db mb tb:Nat)(D:aA)(w:World)(h:aG w db mb tb D)(hw:DWf D) :
  Calls Tryz.prog 22 #[.pointer (some ⟨db,0,none⟩)] w fun e w'=>∃v,e = .returned v/\zJ w' v (D.files.map (·.name))/\Below w.heap.size w w' /\ ∀b,v.ownBlock=some b->w.heap.size<=b:=by
 have H:=hid h;have c0:=h.c0;obtain⟨vals,hm,_⟩:=h.fs;have HM:=hid hm;have HMX:Hid (Maps.size (dat vals D.files)<=maxLen/\Maps.size (dat vals D.files)*16<=140737488355328):=hid (by rw[mP];have:=hw.many;unfold maxLen;omega);clear h hm hw;go_enter Tryz.func22,Tryz.ntmps22;go_wp2_with fail;refine(aAf db mb tb D _ H.out).mono ?_;rintro e w1 ⟨rfl,rfl⟩;go_wp2_with fail;refine((Go.callsIn_wide (n:=5)).1 (Tryz.maps_Keys_71 (some mb) w)).mono ?_;rintro e w1 ⟨rfl,rfl⟩;go_wp2_with fail;refine((Go.callsIn_wide (n:=5)).1 (Tryz.slices_Sorted_keys_70_71 mb _ _ _ w HM.out HMX.out.1 HMX.out.2)).mono ?_;rintro e w2 ⟨v,ss,rfl,hS,hrow,hnil,hb⟩;have HS:=hid hS;have HR:=hid hrow;have HB:=hid hb;clear hS hrow hnil hb;go_wp2_with fail;go_ret;have hsn:=sN HM.out.rising HS.out;have hl:ss.length=(D.files.map (·.name)).length:=by rw[HS.out.length_eq];show ((D.files.map (ent vals)).map _).length=_;simp
 have hr:=HR.out;rw[hsn,hl]at hr;refine⟨v,rfl,?_,((Below.refl _ _).alloc (Nat.le_refl _) _).trans (HB.out.mono (by simp)),fun b hb=>by have:=(World.ownsRow.lt hr b hb).1;simp only[World.size_alloc]at this;omega⟩;rcases hr.2 with ⟨rfl,h0⟩|⟨g,cap,cur,rfl,_⟩
 ·exact⟨none,0,by rw[h0],fun j hj=>by omega⟩
 ·refine⟨_,_,rfl,fun j hj=>⟨g,0,rfl,?_⟩⟩;rw[Nat.zero_add,World.ownsRow.cellAt hr j (by omega),List.getElem?_map,List.getElem?_eq_getElem hj];rfl
