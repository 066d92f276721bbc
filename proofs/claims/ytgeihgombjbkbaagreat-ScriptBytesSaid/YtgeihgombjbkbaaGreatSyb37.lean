/- For scbytes_law_holds. -/
import Derived.Scope
import Derived.LoopN
import Derived.Test.YtgeihgombjbkbaaGreatSyb34
namespace Go.Proofs.Rn
open Go Go.RowKit Go.Proofs.Own

inductive PT where
 | nil
 | h (H:List Nat) (r:PT)
 | o (j:Nat) (r:PT)
 | w (i j:Nat) (r q:PT)
structure Pl where
 M:List Nat
 J:Nat
 st:PT
def planB (l:List Oper)(M:List Nat)(J:Nat):PT->Array Bool->Bool
 | .nil,L=>(Region.ready .any l.toArray L).isEmpty
 | .h H r,L=>stageB l.toArray M J L H&&planB l M J r (H.foldl (fun b i=>b.setIfInBounds i true) L)
 | .o j r,L=>(Region.ready .any l.toArray L == [j])&&planB l M J r (L.setIfInBounds j true)
 | .w i j r q,L=>(Region.ready .any l.toArray L == [i,j])&&planB l M J r (L.setIfInBounds i true)&&planB l M J q (L.setIfInBounds j true)
def planN:PT->Nat
 | .nil=>0
 | .h H r=>planN r+H.length
 | .o _ r=>planN r+1
 | .w _ _ r _=>planN r+1
def planE:PT->Bool
 | .nil=>true
 | .h _ r=>planE r
 | .o _ r=>planE r
 | .w _ _ r q=>planE r&&planE q&&decide (planN r=planN q)
inductive Ex where
 | n|exit (id:Nat)|goto (l:Nat)|ret
def Ex.out:Ex->Exit
 | .n=>.normal
 | .exit id=>.exit id
 | .goto l=>.goto l
 | .ret=>.ret
structure FI where
 fn:Func
 pls:List (Nat × Pl)
def plsGet:List (Nat × Pl)->Nat->Option Pl
 | [],_=>none
 | (i,p)::l,n=>match Nat.beq i n with
  | true=>some p
  | false=>plsGet l n
structure Ac where
 tm:Tr V
 nt:Nat
 pls:List (Nat × Pl)
inductive Cf where
 | code (c:Code)
 | ops (l r:List Oper)
 | pl (l:List Oper) (p:Pl) (st:PT) (fz:List (Nat × Nat × Nat)) (ok:Bool)
 | pw (l:List Oper) (p:Pl) (j:Nat) (r:PT) (fz:List (Nat × Nat × Nat)) (ok:Bool)
 | ex (e:Ex)
inductive KF where
 | seq (c:Code)
 | lp (c:Code)
 | blk (id:Nat)
 | sc
 | fr (dst:Option Tmp) (cf:Cf) (a:Ac) (fn:Func) (fz:List (Nat × Nat × Nat))
inductive Rs where
 | fin (e:Ex) (a:Ac) (h:Hp)
 | bad
 | go (c:Cf) (a:Ac) (h:Hp) (k:List KF)
 | two (c d:Cf) (a:Ac) (h:Hp) (k:List KF)
def Ac.ev (a:Ac):Operand->V
 | .tmp t=>match a.tm.get t with
  | some v=>v
  | none=>.o undef
 | .const v=>constV v
 | .global g=>.o (.pointer (some ⟨g,0,none⟩))
 | .func f=>.f (.func f) [] []
def Ac.put (a:Ac)(d:Option Tmp)(v:V):Ac:=match d with
 | some k=>match Nat.blt k a.nt with
  | true=>⟨a.tm.put k v,a.nt,a.pls⟩
  | false=>a
 | none=>a
def wantV (l:List Oper)(a:Ac)(o:Oper):Option Bool:=match o.guard with
 | none=>some true
 | some (j,b)=>match lget l j with
  | some g=>match g.dst with
   | some d=>match a.tm.get d with
    | some (.b x)=>match Nat.blt d a.nt with
     | true=>some (x==b)
     | false=>none
    | some (.o (.tuple _))=>some false
    | none=>some false
    | _=>none
   | none=>none
  | none=>none
def callV (a:Ac):Op->Option (FuncId × List V)
 | .call c=>match c.callee with
  | .value f=>match a.ev f with
   | .f (.func g) x y=>some (g,x++c.args.toList.map a.ev++y)
   | _=>none
  | _=>none
 | _=>none
def argsT:List V->Nat->Tr V->Tr V
 | [],_,t=>t
 | a::l,i,t=>argsT l (i+1) (t.put i a)
def oneN:Nat->Nat
 | 0=>1
 | n=>n
def touch (tt:TypeId->Option TJ)(a:Ac):Op->Option (Nat × Nat × Nat)
 | .load t x=>match a.ev x,tt t with
  | .p b o,some i=>some (b,o,o+oneN i.n)
  | _,_=>none
 | .lookup _ x _ _=>match a.ev x with
  | .m b=>some (b,0,0)
  | _=>none
 | .convert _ _ x=>match a.ev x with
  | .q b o _ n _=>some (b,o,o+n)
  | _=>none
 | _=>none
def noLook (_:Nat):Option Ent:=none
def oneLook (h:Hp)(b i:Nat):Option Ent:=match Nat.beq i b with
 | true=>h.get i
 | false=>none
def Hp.setFz (h:Hp)(fz:List (Nat × Nat × Nat)):Hp:=⟨h.n,h.zn,h.t,fz⟩
section
variable (P:Program) (tt:TypeId->Option TJ) (ft:FuncId->Option FI) (hk:FuncId->List V->Hp->Option (V × Hp))
def heads (l:List Oper)(h:Hp):List Nat->Ac->List (Nat × Nat × Nat)->Option (Ac × List (Nat × Nat × Nat))
 | [],a,z=>some (a,z)
 | j::js,a,z=>match lget l j with
  | none=>none
  | some o=>match wantV l a o with
   | none=>none
   | some false=>heads l h js (a.put o.dst (.o undef)) z
   | some true=>match hiB o.op with
    | false=>none
    | true=>match loadLike o.op,touch tt a o.op with
     | true,some b=>match evQ P tt (oneLook h b.1) h.get a.ev o.op with
      | some v=>match h.get b.1 with
       | some _=>heads l h js (a.put o.dst v) (b::z)
       | none=>none
      | none=>none
     | _,_=>match evQ P tt noLook h.get a.ev o.op with
      | some v=>heads l h js (a.put o.dst v) z
      | none=>none
inductive O1 where
 | val (v:V) (h:Hp)
 | call (f:FuncId) (args:List V)
 | no
def op1 (a:Ac)(h:Hp)(op:Op):O1:=match hiB op,evQ P tt h.get h.get a.ev op with
 | true,some v=>.val v h
 | _,_=>match evM tt h a.ev op with
  | some (v,h')=>.val v h'
  | none=>match callV a op with
   | some (f,as)=>match hk f as h with
    | some (v,h')=>.val v h'
    | none=>.call f as
   | none=>.no
def res1 (a:Ac)(h:Hp):ResultVar->Option V
 | .tmp t=>some (a.ev (.tmp t))
 | .cell c t=>match a.ev (.tmp c) with
  | .p b o=>match tt t,h.get b with
   | some i,some (.cells cs _)=>loadV i cs o
   | _,_=>none
  | _=>none
def resL (a:Ac)(h:Hp):List ResultVar->Option (List V)
 | []=>some []
 | x::l=>match res1 tt a h x,resL a h l with
  | some v,some r=>some (v::r)
  | _,_=>none
def resV:List V->V
 | [a]=>a
 | l=>.t l
def enterF (i:FI)(as:List V)(dst:Option Tmp)(cf:Cf)(a:Ac)(h:Hp)(k:List KF):Rs:=match i.fn.body,Nat.ble as.length i.fn.ntmps with
 | some c,true=>.go (.code c) ⟨argsT as 0 .e,i.fn.ntmps,i.pls⟩ h (.fr dst cf a i.fn h.fz::k)
 | _,_=>.bad
def stp:Cf->Ac->Hp->List KF->Rs
 | .code .skip,a,h,k=>.go (.ex .n) a h k
 | .code (.label _),a,h,k=>.go (.ex .n) a h k
 | .code (.seq x y),a,h,k=>.go (.code x) a h (.seq y::k)
 | .code (.block id c),a,h,k=>.go (.code c) a h (.blk id::k)
 | .code .ret,a,h,k=>.go (.ex .ret) a h k
 | .code (.exit id),a,h,k=>.go (.ex (.exit id)) a h k
 | .code (.loop c),a,h,k=>.go (.code c) a h (.lp c::k)
 | .code (.scope c),a,h,k=>.go (.code c) a h (.sc::k)
 | .code (.cond c x y),a,h,k=>match a.ev c with
  | .b true=>.go (.code x) a h k
  | .b false=>.go (.code y) a h k
  | _=>.bad
 | .code (.region id l d),a,h,k=>match d with
  | false=>.go (.ops l.toList l.toList) a h k
  | true=>match plsGet a.pls id with
   | some p=>.go (.pl l.toList p p.st h.fz true) a h k
   | none=>.bad
 | .code _,_,_,_=>.bad
 | .ops _ [],a,h,k=>.go (.ex .n) a h k
 | .ops l (o::r),a,h,k=>match wantV l a o with
  | none=>.bad
  | some false=>.go (.ops l r) (a.put o.dst (.o undef)) h k
  | some true=>match op1 P tt hk a h o.op with
   | .val v h=>.go (.ops l r) (a.put o.dst v) h k
   | .call f as=>match ft f with
    | some i=>enterF i as o.dst (.ops l r) a h k
    | none=>.bad
   | .no=>.bad
 | .pl _ _ .nil fz _,a,h,k=>.go (.ex .n) a (h.setFz fz) k
 | .pl l p (.h hs st) fz ok,a,h,k=>match ok || hs.all fun i=>match l.toArray[i]? with|some o=>!hG p.J i o|none=>true with
  | true=>match heads P tt l h hs a h.fz with
   | some (a,z)=>.go (.pl l p st fz ok) a (h.setFz z) k
   | none=>.bad
  | false=>.bad
 | .pl l p (.o j st) fz ok,a,h,k=>.go (.pw l p j st fz ok) a h k
 | .pl l p (.w i j r q) fz ok,a,h,k=>.two (.pw l p i r fz ok) (.pw l p j q fz ok) a h k
 | .pw l p j st fz ok,a,h,k=>match lget l j with
  | none=>.bad
  | some o=>match wantV l a o,ok || !p.J.testBit j with
   | some false,true=>.go (.pl l p st fz ok) (a.put o.dst (.o undef)) h k
   | some true,true=>match op1 P tt hk a h o.op with
    | .val v h=>.go (.pl l p st fz ok) (a.put o.dst v) h k
    | .call f as=>match ft f with
     | some i=>enterF i as o.dst (.pl l p st fz ok) a h k
     | none=>.bad
    | .no=>match p.J.testBit j,op1 P tt hk a (h.setFz fz) o.op with
     | false,.val v h=>.go (.pl l p st fz false) (a.put o.dst v) h k
     | _,_=>.bad
   | _,_=>.bad
 | .ex e,a,h,[]=>.fin e a h
 | .ex .n,a,h,.seq c::k=>.go (.code c) a h k
 | .ex e,a,h,.seq _::k=>.go (.ex e) a h k
 | .ex .n,a,h,.lp c::k=>.go (.code c) a h (.lp c::k)
 | .ex e,a,h,.lp _::k=>.go (.ex e) a h k
 | .ex (.exit i),a,h,.blk id::k=>match Nat.beq i id with
  | true=>.go (.ex .n) a h k
  | false=>.go (.ex (.exit i)) a h k
 | .ex e,a,h,.blk _::k=>.go (.ex e) a h k
 | .ex (.goto _),_,_,.sc::_=>.bad
 | .ex e,a,h,.sc::k=>.go (.ex e) a h k
 | .ex (.exit _),_,_,.fr .. :: _=>.bad
 | .ex (.goto _),_,_,.fr .. :: _=>.bad
 | .ex _,a,h,.fr dst cf b fn fz::k=>match resL tt a h fn.results.toList with
  | some l=>.go cf (b.put dst (resV l)) (h.setFz fz) k
  | none=>.bad
def run (ck:Ex->Ac->Hp->Bool):Nat->Cf->Ac->Hp->List KF->Bool
 | 0,_,_,_,_=>false
 | n+1,c,a,h,k=>match stp P tt ft hk c a h k with
  | .go c a h k=>run ck n c a h k
  | .two c d a h k=>run ck n c a h k&&run ck n d a h k
  | .fin e a h=>ck e a h
  | _=>false
end
def plB (pls:List (Nat × Pl)):Code->Bool
 | .region id l true=>match plsGet pls id with
  | some p=>Region.noSelect l&&maskOk l p.M&&planB l.toList p.M p.J p.st (Array.replicate l.toList.length false)&&planE p.st&&decide (planN p.st=l.toList.length)
  | none=>true
 | .seq a b | .cond _ a b=>plB pls a&&plB pls b
 | .block _ c | .loop c | .scope c=>plB pls c
 | _=>true

def Ac.Wf (a:Ac)(h:Hp):Prop:=∀i v,a.tm.get i=some v->i<a.nt/\v.wf h.n h.zn
def den0 (E:En):Option V->Value
 | some v=>v.den E
 | none=>undef
def Ac.act (E:En)(a:Ac):Act:=⟨((List.range a.nt).map fun i=>den0 E (a.tm.get i)).toArray,[]⟩
section
variable {P:Program} {tt:TypeId->Option TJ} {ft:FuncId->Option FI} {hk:FuncId->List V->Hp->Option (V × Hp)} {w0 w:World} {Q:Exit->Act->World->Prop} {E E':En} {a a':Ac} {h h':Hp}
theorem act_get (E:En)(a:Ac)(i:Nat):(a.act E).tmps[i]? = if i<a.nt then some (den0 E (a.tm.get i)) else none:=by
 unfold Ac.act;simp only[List.getElem?_toArray,List.getElem?_map];by_cases hi:i<a.nt
 ·rw[List.getElem?_range hi,if_pos hi];rfl
 ·rw[List.getElem?_eq_none (by simpa using hi),if_neg hi];rfl
theorem act_eval (ha:a.Wf h)(E:En)(x:Operand):(a.act E).eval x=(a.ev x).den E:=by
 cases x with
 | tmp t =>
  show (a.act E).tmps.getD t undef=_;rw[Array.getD_eq_getD_getElem?,act_get];simp only[Ac.ev];split
  ·cases e:a.tm.get t with
   | none=>simp[den0,V.den]
   | some v=>simp[den0]
  ·rename_i hi;cases e:a.tm.get t with
   | none=>simp[V.den]
   | some v=>exact absurd (ha t v e).1 hi
 | const v=>simp only[Ac.ev,constV_den];rfl
 | global g=>simp only[Ac.ev,V.den];rfl
 | func f=>simp only[Ac.ev,V.den,V.denL];rfl
theorem ev_wf (ha:a.Wf h)(x:Operand):(a.ev x).wf h.n h.zn:=by
 cases x with
 | tmp t =>
  simp only[Ac.ev];split
  ·rename_i e;exact(ha _ _ e).2
  ·simp only[V.wf]
 | const v=>exact constV_wf _ _ _
 | global g=>simp only[Ac.ev,V.wf]
 | func f=>simp only[Ac.ev,V.wf,V.wfL,and_self]
theorem act_put (E:En)(a:Ac)(d:Option Tmp)(v:V):(a.put d v).act E=(a.act E).put d (v.den E):=by
 cases d with
 | none=>rfl
 | some k =>
  unfold Ac.put;simp only;split
  ·rename_i hk;simp only[Nat.blt_eq]at hk;unfold Act.put;simp only[Ac.act,Act.mk.injEq,and_true];apply Array.ext_getElem?;intro i;have h1:=act_get E ⟨a.tm.put k v,a.nt,a.pls⟩ i;have h2:=act_get E a i;simp only[Ac.act]at h1 h2;rw[h1,Array.getElem?_setIfInBounds,h2];by_cases q:k=i
   ·subst q;rw[if_pos hk,if_pos rfl,Tr.get_put];simp[den0,hk]
   ·rw[if_neg q,Tr.get_put_ne _ _ (Ne.symm q)]
  ·rename_i hk;unfold Act.put;have hlt:¬k<a.nt:=fun q=>by rw[<- Nat.blt_eq]at q;rw[q]at hk;cases hk
   have hs:(a.act E).tmps.size=a.nt:=by simp[Ac.act]
   simp only;rw[Array.setIfInBounds_eq_of_size_le (show (a.act E).tmps.size<=k by rw[hs];exact Nat.le_of_not_lt hlt)]
theorem put_wf {v:V}(ha:a.Wf h)(hv:v.wf h.n h.zn)(d:Option Tmp):(a.put d v).Wf h:=by
 cases d with
 | none=>exact ha
 | some k =>
  unfold Ac.put;simp only;split
  ·rename_i hk;simp only[Nat.blt_eq]at hk;intro i u hu;simp only at hu ⊢;by_cases q:i=k
   ·subst q;rw[Tr.get_put]at hu;cases hu;exact⟨hk,hv⟩
   ·rw[Tr.get_put_ne _ _ q]at hu;exact ha i u hu
  ·exact ha
theorem wf_mono (ha:a.Wf h)(h1:h.n<=h'.n)(h2:h.zn<=h'.zn):a.Wf h':=fun i v hv=>⟨(ha i v hv).1,V.wf_mono h1 h2 v (ha i v hv).2⟩
theorem act_ext (ha:a.Wf h)(x:Ext h.n h.zn E E'):a.act E'=a.act E:=by
 unfold Ac.act
 congr 2
 refine List.map_congr_left fun i _=>?_;cases e:a.tm.get i with
 | none=>rfl
 | some v=>exact V.den_ext x v (ha i v e).2
theorem want_den {l:List Oper}{o:Oper}{x:Bool}(h:wantV l a o=some x):Region.wanted o (yielded l.toArray (a.act E).tmps)=x:=by
 unfold wantV at h;unfold Region.wanted;split at h
 ·rename_i hg;rw[hg];cases h;rfl
 ·rename_i j b hg;rw[hg];split at h
  ·rename_i g hj;split at h
   ·rename_i d hd;split at h
    ·rename_i y hy;split at h
     ·rename_i hdn;cases h;simp only[Nat.blt_eq]at hdn;rw[lget_eq]at hj;simp only[yielded,List.getElem?_toArray,hj,Option.bind_some,hd,act_get,hdn,if_true,hy,den0,V.den];cases y<;>cases b<;>rfl
     ·cases h
    ·rename_i y hy;cases h;rw[lget_eq]at hj;simp only[yielded,List.getElem?_toArray,hj,Option.bind_some,hd,act_get,hy,den0,V.den];split<;>rename_i e<;>first|rfl|(split at e<;>cases e)
    ·rename_i hy;cases h;rw[lget_eq]at hj;simp only[yielded,List.getElem?_toArray,hj,Option.bind_some,hd,act_get,hy,den0];split<;>rename_i e<;>first|rfl|(split at e<;>cases e)
    ·cases h
   ·cases h
  ·cases h
def HoldE (E:En)(n0 b lo hi:Nat)(v:World):Ent->Prop
 | .cells l _=>(E.B b).1<v.heap.size /\ ∀(j:Nat) x,lo<=j->j<hi->l[j]? = some x->v.cell? (E.at b j)=some (x.den E)
 | e=>EntOk E n0 b v e
def Hold (E:En)(w0:World)(h:Hp)(fz:List (Nat × Nat × Nat))(v:World):Prop:=∀i ∈ fz,∀e,h.get i.1=some e->HoldE E w0.heap.size i.1 i.2.1 i.2.2 v e
theorem EntOk.hold {n0 b lo hi:Nat}{v:World}{e:Ent}(he:EntOk E n0 b v e):HoldE E n0 b lo hi v e:=by
 cases e with
 | cells l u=>exact⟨he.2.1,fun j x _ _ hx=>(he.2.2.1 j x hx).1⟩
 | _=>exact he
theorem HoldE.ent {n0 b lo hi:Nat}{v:World}{e:Ent}(he:HoldE E n0 b lo hi v e)(hc:∀l u,e ≠ .cells l u):EntOk E n0 b v e:=by
 cases e with
 | cells l u=>exact absurd rfl (hc l u)
 | _=>exact he
theorem Gd.hold (g:Gd E w0 h w)(fz:List (Nat × Nat × Nat)):Hold E w0 h fz w:=fun _ _ _ he=>(g.ent he).hold
theorem Hold.alloc {fz:List (Nat × Nat × Nat)}{v:World}(hh:Hold E w0 h fz v)(o:Obj):Hold E w0 h fz (v.alloc o):=fun i hi e he=>by
 have:=hh i hi e he;have hk:∀b,b<v.heap.size->(v.alloc o).heap[b]? = v.heap[b]?:=fun b hb=>(Kept.alloc v o (fun _=>False)).block _ hb id;cases e with
 | cells l u =>
  refine⟨Nat.lt_of_lt_of_le this.1 (by simp),fun j x h1 h2 hx=>?_⟩;rw[World.cell?_of_block (a:=E.at i.1 j) (hk _ this.1)];exact this.2 j x h1 h2 hx
 | _ =>
  have this:=HoldE.ent this nofun;exact EntOk.hold (EntOk.kept this (by simp) fun hd=>hk _ (EntOk.lt this hd).2)
theorem Hold.sub {fz fz':List (Nat × Nat × Nat)}{v:World}(hh:Hold E w0 h fz v)(hs:∀i ∈ fz',i ∈ fz):Hold E w0 h fz' v:=fun i hi=>hh i (hs i hi)
theorem Ext.symm {n zn:Nat}(x:Ext n zn E E'):Ext n zn E' E:=⟨fun i hi=>(x.B i hi).symm,fun i hi=>(x.C i hi).symm,fun i hi=>(x.Z i hi).symm⟩
theorem Hold.back {fz:List (Nat × Nat × Nat)}{v:World}(hw:h.Wf)(x:Ext h.n h.zn E E')(hf:∀i ∈ fz,SameE i.2.1 i.2.2 (h.get i.1) (h'.get i.1))(hh:Hold E' w0 h' fz v):Hold E w0 h fz v:=fun i hi e he=>by
 have hs:=hf i hi;rw[he]at hs;have hn:=hw.lt he;have hwf:=hw.wf he;cases e with
 | cells l u =>
  cases e2:h'.get i.1 with
  | none=>rw[e2]at hs;cases hs
  | some e' =>
   rw[e2]at hs;cases e' with
   | cells l' u' =>
    have:=hh i hi _ e2;have hB:=x.B i.1 hn;refine⟨by rw[<- hB];exact this.1,fun j y h1 h2 hy=>?_⟩;have h3:=this.2 j y h1 h2 ((hs j h1 h2).trans hy);rw[V.den_ext x y (wfL_iff.1 hwf y (List.mem_of_getElem? hy))]at h3;rw[show E'.at i.1 j=E.at i.1 j by simp only[En.at,hB]]at h3;exact h3
   | _=>cases hs
 | _ =>
  have this:=HoldE.ent (hh i hi _ hs) nofun;exact EntOk.hold (EntOk.ext x.symm hn hwf this)
inductive LW (P:Program) (c:Code) (Q:Exit->Act->World->Prop):Act->World->Prop where
 | mk {a:Act} {w:World} (f:Frame->List Item->List Frame->Exit × Act × World) (hn:∀b k cs,(f b k cs).1 = .normal->LW P c Q (f b k cs).2.1 (f b k cs).2.2) (ho:∀b k cs,(f b k cs).1 ≠ .normal->Q (f b k cs).1 (f b k cs).2.1 (f b k cs).2.2)
   (ha:∀b k cs,Arrives P (lone (b.at a (.code c::k)) cs w) b k cs (f b k cs).1 (f b k cs).2.1 (f b k cs).2.2):LW P c Q a w
theorem LW.of {c:Code}{Q:Exit->Act->World->Prop}{a:Act}{w:World}(h:c.wp P (Exit.then (LW P c Q) Q) a w):LW P c Q a w:=by
 have h2:∀b k cs,∃r:Exit × Act × World,Exit.then (LW P c Q) Q r.1 r.2.1 r.2.2/\Arrives P (lone (b.at a (.code c::k)) cs w) b k cs r.1 r.2.1 r.2.2:=fun b k cs=>let ⟨e,a',w',q,r⟩:=h b k cs;⟨(e,a',w'),q,r⟩;refine LW.mk (fun b k cs=>Classical.choose (h2 b k cs)) (fun b k cs hn=>?_) (fun b k cs hn=>?_) fun b k cs=>(Classical.choose_spec (h2 b k cs)).2
 ·have:=(Classical.choose_spec (h2 b k cs)).1;rw[hn]at this;exact this
 ·have:=(Classical.choose_spec (h2 b k cs)).1;revert this hn;generalize Classical.choose (h2 b k cs)=r;obtain⟨e,a',w'⟩:=r;intro hn hq;cases e<;>first|exact absurd rfl hn|exact hq
theorem LW.wp {c:Code}{Q:Exit->Act->World->Prop}{a:Act}{w:World}(h:LW P c Q a w):(Code.loop c).wp P Q a w:=by
 intro b k cs;have key:∃e a' w',Q e a' w'/\Arrives P (lone (b.at a (.code c :: .inLoop c::k)) cs w) b k cs e a' w':=by
  induction h with
  | @mk a w f hn ho ha ih =>
   have harr:=ha b (.inLoop c::k) cs;have hq:=ho b (.inLoop c::k) cs;have ihh:=ih b (.inLoop c::k) cs;generalize f b (.inLoop c::k) cs=r at harr hq ihh;obtain⟨e,a₁,w₁⟩:=r;simp only at harr hq ihh;cases e with
   | normal =>
    obtain⟨e₂,a₂,w₂,hq₂,harr₂⟩:=ihh rfl;exact⟨e₂,a₂,w₂,hq₂,.of_steps (Steps.trans harr (.one step_inLoop)) harr₂⟩
   | exit id=>exact⟨_,a₁,w₁,hq nofun,.pass (x:=.inLoop c) rfl (fun _ _=>.inl (by simp)) harr⟩
   | goto l=>exact⟨_,a₁,w₁,hq nofun,.pass (x:=.inLoop c) rfl (fun _ _=>.inl (by simp)) harr⟩
   | ret=>exact⟨_,a₁,w₁,hq nofun,.pass (x:=.inLoop c) rfl (fun _ _=>.inl (by simp)) harr⟩
   | panic ch=>exact⟨_,a₁,w₁,hq nofun,.pass (x:=.inLoop c) rfl (fun _ _=>.inl (by simp)) harr⟩
   | outgrown=>exact⟨_,a₁,w₁,hq nofun,.pass (x:=.inLoop c) rfl (fun _ _=>.inl (by simp)) harr⟩
 obtain⟨e,a',w',hq,harr⟩:=key;exact⟨e,a',w',hq,.of_steps (.one step_loop) harr⟩
def ContP (P:Program)(S:World->Prop)(L:Array Bool)(K:Exit->Act->World->Prop):Cf->Act->World->Prop
 | .ops l r,a,w=>wpList P l.toArray K r a w
 | .pl l p st _ ok,a,w=>(ok=true->S w)/\Own.Rest P l.toArray p.M p.J S K (planN st) L a w
 | _,_,_=>False
def fzC:Cf->List (Nat × Nat × Nat)->List (Nat × Nat × Nat)
 | .pl _ _ _ fz _,_=>fz
 | .pw _ _ _ _ fz _,_=>fz
 | _,fz=>fz
def CfV (pls:List (Nat × Pl)):Cf->Prop
 | .code c=>plB pls c=true
 | .pl l p st _ _=>(Region.noSelect l.toArray&&maskOk l.toArray p.M&&planE st)=true
 | .pw l p _ st _ _=>(Region.noSelect l.toArray&&maskOk l.toArray p.M&&planE st)=true
 | _=>True
def CfL (L:Array Bool):Cf->Prop
 | .pl l p st _ _=>planB l p.M p.J st L=true
 | .ops _ _=>True
 | _=>False
def SaOk (S:World->Prop):Prop:=∀w o,S w->S (w.alloc o)
def okC:Cf->Bool
 | .pl _ _ _ _ ok=>ok
 | .pw _ _ _ _ _ ok=>ok
 | _=>true
variable (P w0 Q) in
def Kont:En->Hp->List (Nat × Nat × Nat)->List (Nat × Pl)->List KF->(Exit->Act->World->Prop)->Prop
 | _,_,_,_,[],K=>K=Q
 | E,h,fz,pls,.seq c::k,K=>plB pls c=true /\ ∃K',Kont E h fz pls k K'/\K=Exit.then (fun a w=>c.wp P K' a w) K'
 | E,h,fz,pls,.lp c::k,K=>plB pls c=true /\ ∃K',Kont E h fz pls k K'/\K=Exit.then (LW P c K') K'
 | E,h,fz,pls,.blk id::k,K=>∃K',Kont E h fz pls k K'/\K=Exit.inBlock id K'
 | E,h,fz,pls,.sc::k,K=>∃K',Kont E h fz pls k K'/\K=Exit.noGoto K'
 | E,h,fz,_,.fr dst cf b fn fzS::k,K=>∃K' S L,Kont E h (fzC cf fzS) b.pls k K'/\(∀i ∈ fzC cf fzS,i ∈ fzS)/\(∀i ∈ fzS,i ∈ fz)/\b.Wf h/\CfV b.pls cf/\CfL L cf/\SaOk S/\(okC cf=true -> ∀v,Hold E w0 h fzS v->S v) /\
  K=bodyPost P fn (fun e w'=>∃v,e = .returned v/\ContP P S L K' cf ((b.act E).put dst v) w')
theorem kont_mono (hw:h.Wf)(x:Ext h.n h.zn E E')(h1:h.n<=h'.n)(h2:h.zn<=h'.zn):∀(k:List KF) {fz fz':List (Nat × Nat × Nat)} {pls:List (Nat × Pl)} {K:Exit->Act->World->Prop},(∀i ∈ fz,SameE i.2.1 i.2.2 (h.get i.1) (h'.get i.1))->(∀i ∈ fz,i ∈ fz')->Kont P w0 Q E h fz pls k K->Kont P w0 Q E' h' fz' pls k K
 | [],_,_,_,_,_,_,hK=>hK
 | .seq c::k,_,_,_,_,hf,hs,⟨hp,K',hK,e⟩=>⟨hp,K',kont_mono hw x h1 h2 k hf hs hK,e⟩
 | .lp c::k,_,_,_,_,hf,hs,⟨hp,K',hK,e⟩=>⟨hp,K',kont_mono hw x h1 h2 k hf hs hK,e⟩
 | .blk id::k,_,_,_,_,hf,hs,⟨K',hK,e⟩=>⟨K',kont_mono hw x h1 h2 k hf hs hK,e⟩
 | .sc::k,_,_,_,_,hf,hs,⟨K',hK,e⟩=>⟨K',kont_mono hw x h1 h2 k hf hs hK,e⟩
 | .fr dst cf b fn fzS::k,fz,fz',_,K,hf,hs,⟨K',S,L,hK,c1,c2,c3,c4,c5,c7,c6,e⟩=>by
  refine⟨K',S,L,kont_mono hw x h1 h2 k (fun i hi=>hf i (c2 i (c1 i hi))) (fun i hi=>hi) hK,c1,fun i hi=>hs i (c2 i hi),wf_mono c3 h1 h2,c4,c5,c7,fun q v hv=>c6 q v (hv.back hw x fun i hi=>hf i (c2 i hi)),?_⟩;rw[e,act_ext c3 x]
def PanOk (K:Exit->Act->World->Prop):Prop:=∀c (a:Act) t w,K (.panic c) { a with tmps:=t } w->K (.panic c) a w
theorem kont_pan (hp:PanOk Q):∀(k:List KF) {E:En} {h:Hp} {fz:List (Nat × Nat × Nat)} {pls:List (Nat × Pl)} {K:Exit->Act->World->Prop},Kont P w0 Q E h fz pls k K->PanOk K
 | [],_,_,_,_,_,hK=>by rw[show _=Q from hK];exact hp
 | .seq c::k,_,_,_,_,_,⟨_,K',hK,e⟩=>by subst e;exact fun c a t w h=>kont_pan hp k hK c a t w h
 | .lp c::k,_,_,_,_,_,⟨_,K',hK,e⟩=>by subst e;exact fun c a t w h=>kont_pan hp k hK c a t w h
 | .blk id::k,_,_,_,_,_,⟨K',hK,e⟩=>by subst e;exact fun c a t w h=>kont_pan hp k hK c a t w h
 | .sc::k,_,_,_,_,_,⟨K',hK,e⟩=>by subst e;exact fun c a t w h=>kont_pan hp k hK c a t w h
 | .fr dst cf b fn fzS::k,_,_,_,_,_,⟨K',S,L,hK,_,_,_,_,_,_,_,e⟩=>by subst e;exact fun c a t w h=>h
def CfP (P:Program)(S:World->Prop)(K:Exit->Act->World->Prop):Cf->Act->World->Prop
 | .code c,a,w=>c.wp P K a w
 | .ops l r,a,w=>wpList P l.toArray K r a w
 | .pl l p st _ _,a,w=>∀L,planB l p.M p.J st L=true->Own.Rest P l.toArray p.M p.J S K (planN st) L a w
 | .pw l p j st _ _,a,w=>∀L,j ∈ Region.ready .any l.toArray L->planB l p.M p.J st (L.setIfInBounds j true)=true->wpList P l.toArray (dF P l.toArray p.M p.J S K (planN st) (L.setIfInBounds j true) j) ((l.drop j).take 1) a w
 | .ex e,a,w=>K e.out a w
variable (P w0 Q) in
def Ok (cf:Cf)(a:Ac)(h:Hp)(k:List KF):Prop:=∀E w K,Gd E w0 h w->a.Wf h->CfV a.pls cf->Kont P w0 Q E h (fzC cf h.fz) a.pls k K->(∀i ∈ fzC cf h.fz,i ∈ h.fz) -> ∀S,SaOk S->(okC cf=true -> ∀v,Hold E w0 h h.fz v->S v)->CfP P S K cf (a.act E) w
variable (P tt ft hk w0 Q) in
structure Env:Prop where
 tyk:TTok P tt
 pe:∀t i,tt t=some i->i.eq=true->plainEq P t=true
 mix:P.follows .mixedOrders=true
 pan:PanOk Q
 fnk : ∀ f i, ft f = some i → P.funcs[f]? = some i.fn ∧ (i.fn.name == "runtime.NumGoroutine") = false ∧ ∀ c, i.fn.body = some c → plB i.pls c = true
 hok : ∀ f as h r h', hk f as h = some (r, h') → ∀ E w, Gd E w0 h w → V.wfL h.n h.zn as → (Calls P f (V.denL E as).toArray w fun e w' => ∃ E', e = .returned (r.den E') ∧ Stp w0 E h E' h' w' ∧ r.wf h'.n h'.zn) ∧ ∃ fn, P.funcs[f]? = some fn ∧ fn.body.isSome = true ∧ (fn.name == "runtime.NumGoroutine") = false
theorem run_callF {f : FuncId} {fn : Func} {args : Array Value} (hf : P.funcs[f]? = some fn) (hb : fn.body.isSome = true) (hn : (fn.name == "runtime.NumGoroutine") = false) : (callFunc f args).run P w = .ok (.enter f args) w := by
 have hnb:fn.body.isNone=false:=by cases e:fn.body<;>simp_all
 unfold callFunc;rw[Sem.run_bind];show Sem.run P (match P.funcs[f]? with|none=>_|some fn=>_) w=_;rw[hf];simp only;rw[if_neg (by rw[hn];decide),if_neg (by rw[hnb];decide)];rfl
theorem callV_wf (ha:a.Wf h){op:Op}{f:FuncId}{as:List V}(hc:callV a op=some (f,as)):V.wfL h.n h.zn as:=by
 cases op<;>simp only[callV]at hc<;>first|(cases hc;done)|skip
 rename_i c;split at hc
 ·rename_i x hcl;split at hc
  ·rename_i g a1 a2 hx;cases hc;have hwx:=ev_wf ha x;rw[hx]at hwx;simp only[V.wf]at hwx;refine wfL_iff.2 fun v hv=>?_;rcases List.mem_append.1 hv with hv|hv
   ·rcases List.mem_append.1 hv with hv|hv
    ·exact wfL_iff.1 hwx.1 v hv
    ·obtain⟨y,_,rfl⟩:=List.mem_map.1 hv;exact ev_wf ha y
   ·exact wfL_iff.1 hwx.2 v hv
  ·cases hc
 ·cases hc
theorem callV_run (ha : a.Wf h) {o : Oper} {f : FuncId} {as : List V} (hc : callV a o.op = some (f, as)) {fn : Func} (hf : P.funcs[f]? = some fn) (hb : fn.body.isSome = true) (hn : (fn.name == "runtime.NumGoroutine") = false) :
  (execOp (a.act E).eval o).run P w = .ok (.enter f (V.denL E as).toArray) w/\V.wfL h.n h.zn as:=by
 obtain⟨dst,op,ty,pos,after,gd⟩:=o;simp only at hc;cases op<;>simp only[callV]at hc<;>first|(cases hc;done)|skip
 rename_i c;split at hc
 ·rename_i x hcl;split at hc
  ·rename_i g a1 a2 hx;cases hc;have hwx:=ev_wf ha x;rw[hx]at hwx;simp only[V.wf]at hwx;refine⟨?_,wfL_iff.2 fun v hv=>?_⟩
   ·simp only[execOp,resolve,hcl,act_eval ha,hx,V.den,Deferred.ofValue,Sem.run_bind,Sem.run_pure,Result.andThen_ok,invoke];rw[run_callF hf hb hn]
    congr 2
    simp only[denL_eq,List.map_append,List.map_map];rw[<- Array.toList_inj];simp[Function.comp_def,act_eval ha]
   ·rcases List.mem_append.1 hv with hv|hv
    ·rcases List.mem_append.1 hv with hv|hv
     ·exact wfL_iff.1 hwx.1 v hv
     ·obtain⟨y,_,rfl⟩:=List.mem_map.1 hv;exact ev_wf ha y
    ·exact wfL_iff.1 hwx.2 v hv
  ·cases hc
 ·cases hc
theorem op_val (B:Env P tt ft hk w0 Q)(g:Gd E w0 h w)(ha:a.Wf h){o:Oper}{v:V}(ho:op1 P tt hk a h o.op = .val v h'){K':Act->World->Prop}{Q':Exit->Act->World->Prop}
  (hK:∀E' w',Stp w0 E h E' h' w'->v.wf h'.n h'.zn->K' ((a.act E).put o.dst (v.den E')) w'):o.wp P (a.act E) w K' Q':=by
 have hr:∀x,(a.act E).eval x=(a.ev x).den E:=act_eval ha E;have mem:∀ {v},evM tt h a.ev o.op=some (v,h')->(∀E' w',Stp w0 E h E' h' w'->v.wf h'.n h'.zn->K' ((a.act E).put o.dst (v.den E')) w')->o.wp P (a.act E) w K' Q':=fun {v} hm hK=>by
  have q:=evM_ok B.tyk g (ev_wf ha) hr o hm;obtain⟨E',w',q1,q2,q3⟩:=q;have:=hK E' w' q1 q2;unfold Oper.wp;rcases q3 with q3|⟨q3,q4⟩
  ·rw[q3];exact this
  ·rw[q3,Oper.upon_skip,<- q4];exact this
 have rest:(match evM tt h a.ev o.op with
  | some (v,h')=>O1.val v h'
  | none=>match callV a o.op with
   | some (f,as)=>match hk f as h with
    | some (v,h')=>.val v h'
    | none=>.call f as
   | none=>.no) = .val v h'->o.wp P (a.act E) w K' Q':=fun ho=>by
  split at ho
  ·rename_i v1 h1 hm;cases ho;exact mem hm hK
  ·split at ho
   ·rename_i f as hc;split at ho
    ·rename_i v1 h1 hh;cases ho;have hwf:=callV_wf ha hc;obtain⟨q1,fn,q2,q3,q4⟩:=B.hok f as h v h' hh E w g hwf;unfold Oper.wp;rw[(callV_run (E:=E) (w:=w) ha hc q2 q3 q4).1,Oper.upon_enter];refine q1.mono fun e w' he=>?_;obtain⟨E',rfl,q5,q6⟩:=he;exact hK E' w' q5 q6
    ·cases ho
   ·cases ho
 unfold op1 at ho;split at ho
 ·rename_i v1 hb hq;cases ho;have:=evQ_ok (P:=P) (w:=w) B.tyk B.pe (fun _ _=>True) (fun he j v _ hv=>((g.ent he).2.2.1 j v hv).1) (fun he=>(g.ent he).2) (fun {i l} he=>by
   have:=(g.ent he);exact(this.2.2.2.1 rfl).1) (ev_wf ha) hr o (by
   cases o.op<;>simp[opK]) hb hq
  unfold Oper.wp;rw[this];exact hK E w (Stp.refl g) (evQ_wf B.tyk (fun he=>g.wf.wf he) (ev_wf ha) hq)
 ·exact rest ho
theorem op_call (B:Env P tt ft hk w0 Q)(ha:a.Wf h){o:Oper}{f:FuncId}{as:List V}(ho:op1 P tt hk a h o.op = .call f as){i:FI}(hi:ft f=some i){c:Code}(hc:i.fn.body=some c){K':Act->World->Prop}{Q':Exit->Act->World->Prop}
  (hK:V.wfL h.n h.zn as->Calls P f (V.denL E as).toArray w fun e w'=>∃v,e = .returned v/\K' ((a.act E).put o.dst v) w'):o.wp P (a.act E) w K' Q':=by
 have rest:(match evM tt h a.ev o.op with
  | some (v,h')=>O1.val v h'
  | none=>match callV a o.op with
   | some (f,as)=>match hk f as h with
    | some (v,h')=>.val v h'
    | none=>.call f as
   | none=>.no) = .call f as->callV a o.op=some (f,as):=fun ho=>by
  split at ho
  ·cases ho
  ·split at ho
   ·rename_i hcv;split at ho
    ·cases ho
    ·cases ho;exact hcv
   ·cases ho
 have hcv:callV a o.op=some (f,as):=by
  unfold op1 at ho;split at ho
  ·cases ho
  ·exact rest ho
 obtain⟨q1,q2,q3⟩:=B.fnk f i hi;obtain⟨r1,r2⟩:=callV_run (E:=E) (w:=w) ha hcv q1 (by rw[hc];rfl) q2;unfold Oper.wp;rw[r1,Oper.upon_enter];refine(hK r2).mono fun e w' he=>?_;obtain⟨v,rfl,hv⟩:=he;exact hv
end

def resS (tm:Array Value):ResultVar->Sem Value
 | .tmp t=>pure (tm.getD t undef)
 | .cell a t=>do loadVar t (<- asAddr (tm.getD a undef))
theorem results_eq (fn:Func)(tm:Array Value):results fn tm=(do let vs <- fn.results.mapM (resS tm);pure (if h:vs.size=1 then vs[0] else .tuple vs)):=by
 unfold results
 congr 2
section
variable {P:Program} {ops:Array Oper} {Q:Exit->Act->World->Prop} {S:World->Prop} {M:List Nat} {J:Nat}
theorem anyS_mono {S':World->Prop}(h:∀w,S' w->S w):∀f listed a w,Own.wpAnyS P ops Q S' J f listed a w->Own.wpAnyS P ops Q S J f listed a w
 | 0,_,_,_,k=>k
 | f+1,_,_,_,k=>⟨k.1,fun i hi=>wpOp_mono (fun a' w' h'=>⟨fun hj=>h _ (h'.1 hj),anyS_mono h f _ a' w' h'.2⟩) (k.2 i hi)⟩
theorem stage_switch {f:Nat}{listed:Array Bool}{a:Act}{w:World}{S:World->Prop}(S':World->Prop)(h:∀w,S' w->S w)(k:Own.Rest P ops M J S' Q f listed a w):Own.Rest P ops M J S Q f listed a w :=
 ⟨fun hc=>anyS_mono h _ _ _ _ (k.out hc)⟩
end
section
variable {P:Program} {tt:TypeId->Option TJ} {ft:FuncId->Option FI} {hk:FuncId->List V->Hp->Option (V × Hp)} {w0 w:World} {Q:Exit->Act->World->Prop} {E E':En} {a a':Ac} {h h':Hp} {k k':List KF} {c c':Cf}
theorem argsT_get:∀(l:List V) (i:Nat) (t:Tr V) (j:Nat),(argsT l i t).get j=if i<=j/\j<i+l.length then l[j-i]? else t.get j
 | [],i,t,j=>by rw[argsT,if_neg (by simp)]
 | x::l,i,t,j=>by
  rw[argsT,argsT_get l (i+1) _ j];simp only[List.length_cons];by_cases q:j=i
  ·subst q;rw[if_neg (by omega),if_pos (by omega),Tr.get_put,Nat.sub_self];rfl
  ·rw[Tr.get_put_ne _ _ q];by_cases q2:i+1<=j/\j<i+1+l.length
   ·rw[if_pos q2,if_pos (by omega),show j-i=(j-(i+1))+1 by omega];rfl
   ·rw[if_neg q2,if_neg (by omega)]
theorem enter_wf {as:List V}{n:Nat}{pls:List (Nat × Pl)}(hw:V.wfL h.n h.zn as)(hl:as.length<=n):(⟨argsT as 0 .e,n,pls⟩:Ac).Wf h:=fun i v hv=>by
 simp only[argsT_get,Nat.zero_le,true_and,Nat.zero_add,Nat.sub_zero,Tr.get_e]at hv;split at hv
 ·exact⟨by simp only;omega,wfL_iff.1 hw v (List.mem_of_getElem? hv)⟩
 ·cases hv
theorem enter_act (E:En){as:List V}{n:Nat}{pls:List (Nat × Pl)}(hl:as.length<=n):(⟨argsT as 0 .e,n,pls⟩:Ac).act E = { tmps:=(V.denL E as).toArray++Array.replicate (n-(V.denL E as).toArray.size) undef,defers:=[] }:=by
 have hs:(V.denL E as).toArray.size=as.length:=by rw[List.size_toArray,denL_len]
 rw[hs];unfold Ac.act
 congr 1
 apply Array.ext_getElem?;intro i;rw[List.getElem?_toArray,List.getElem?_map,Array.getElem?_append,hs,List.getElem?_toArray,denL_get,Array.getElem?_replicate];simp only[argsT_get,Nat.zero_le,true_and,Nat.zero_add,Nat.sub_zero,Tr.get_e];by_cases h1:i<as.length
 ·rw[List.getElem?_range (by omega),if_pos h1];simp only[Option.map_some,h1,if_true,List.getElem?_eq_getElem h1,den0]
 ·rw[if_neg h1];by_cases h2:i<n
  ·rw[List.getElem?_range h2,if_pos (by omega)];simp only[Option.map_some,h1,if_false,den0]
  ·rw[List.getElem?_eq_none (by simpa using h2),if_neg (by omega)];rfl
theorem res1_ok (hT:TTok P tt)(g:Gd E w0 h w)(ha:a.Wf h){x:ResultVar}{v:V}(hx:res1 tt a h x=some v):(resS (a.act E).tmps x).run P w = .ok (v.den E) w/\v.wf h.n h.zn:=by
 cases x with
 | tmp t =>
  cases hx;exact⟨by
   simp only[resS,Sem.run_pure];rw[show (a.act E).tmps.getD t undef=(a.act E).eval (.tmp t) from rfl,act_eval ha],ev_wf ha _⟩
 | cell c t =>
  simp only[res1]at hx;split at hx
  ·rename_i b o e;split at hx
   ·rename_i i cs u hi hb;have he:=g.ent hb;refine⟨?_,loadV_wf hx (g.wf.wf hb)⟩;simp only[resS];rw[show (a.act E).tmps.getD c undef=(a.act E).eval (.tmp c) from rfl,act_eval ha,e];simp only[V.den,asAddr,Sem.run_bind,Sem.run_pure,Result.andThen_ok];exact load_ok (hT _ _ hi) (fun j v _ hv=>by
     rw[denL_get]at hv;cases hc:cs[j]? with
     | none=>rw[hc]at hv;cases hv
     | some a=>rw[hc]at hv;cases hv;exact(he.2.2.1 j a hc).1) hx
   ·cases hx
  ·cases hx
theorem resL_ok (hT:TTok P tt)(g:Gd E w0 h w)(ha:a.Wf h):∀ {l:List ResultVar} {r:List V},resL tt a h l=some r->(l.mapM (resS (a.act E).tmps)).run P w = .ok (V.denL E r) w/\V.wfL h.n h.zn r
 | [],r,h=>by cases h;exact⟨by simp[V.denL],trivial⟩
 | x::l,r,hx=>by
  rw[resL]at hx;split at hx
  ·rename_i v q hv hq;cases hx;obtain⟨h1,w1⟩:=res1_ok hT g ha hv;obtain⟨h2,w2⟩:=resL_ok hT g ha hq;refine⟨?_,by simp only[V.wfL];exact⟨w1,w2⟩⟩;rw[List.mapM_cons,Sem.run_bind,h1,Result.andThen_ok,Sem.run_bind,h2,Result.andThen_ok];simp only[Sem.run_pure,V.denL]
  ·cases hx
theorem results_ok (hT:TTok P tt)(g:Gd E w0 h w)(ha:a.Wf h){fn:Func}{r:List V}(hx:resL tt a h fn.results.toList=some r):(results fn (a.act E).tmps).run P w = .ok ((resV r).den E) w/\(resV r).wf h.n h.zn:=by
 obtain⟨h1,w1⟩:=resL_ok hT g ha hx;refine⟨?_,?_⟩
 ·rw[results_eq,Sem.run_bind];have h2:(fn.results.mapM (resS (a.act E).tmps)).run P w = .ok (V.denL E r).toArray w:=by
   rw[Array.mapM_eq_mapM_toList,Sem.run_map,h1];rfl
  rw[h2,Result.andThen_ok,Sem.run_pure]
  congr 1
  match r with
  | []=>simp[V.denL,resV,V.den]
  | [x]=>simp[V.denL,resV]
  | x::y::l=>simp[V.denL,resV,V.den]
 ·match r,w1 with
  | [],_=>simp only[resV,V.wf,V.wfL]
  | [x],w1=>simp only[V.wfL]at w1;exact w1.1
  | x::y::l,w1=>simp only[resV,V.wf];exact w1
theorem wpList_on {l:List Oper}{o:Oper}{rs:List Oper}{Q':Exit->Act->World->Prop}{b:Act}(hw:Region.wanted o (yielded l.toArray b.tmps)=true)(hh:o.wp P b w (wpList P l.toArray Q' rs) Q'):wpList P l.toArray Q' (o::rs) b w:=by
 unfold wpList;rw[if_pos hw];exact .inl hh
theorem wpList_off {l:List Oper}{o:Oper}{rs:List Oper}{Q':Exit->Act->World->Prop}{b:Act}(hw:Region.wanted o (yielded l.toArray b.tmps)=false)(hh:wpList P l.toArray Q' rs (b.put o.dst undef) w):wpList P l.toArray Q' (o::rs) b w:=by
 unfold wpList;rw[if_neg (by rw[hw];decide)];exact hh
theorem touch_ok {op:Op}{b:Nat × Nat × Nat}(ht:touch tt a op=some b):opK tt a.ev (fun i j=>i=b.1/\b.2.1<=j/\j<b.2.2) op:=by
 cases op with
 | load t x =>
  simp only[touch]at ht;split at ht
  ·rename_i b' o i e hi;cases ht;intro b2 o2 i2 e2 hi2 j hj;rw[e]at e2;cases e2;rw[hi]at hi2;cases hi2;refine⟨rfl,?_,?_⟩
   ·rcases hj with rfl|hj
    ·exact Nat.le_refl _
    ·exact hj.1
   ·simp only;have:i.n<=oneN i.n/\0<oneN i.n:=by
     cases i.n with
     | zero=>exact⟨Nat.zero_le _,Nat.one_pos⟩
     | succ n=>exact⟨Nat.le_refl _,Nat.succ_pos _⟩
    rcases hj with rfl|hj<;>omega
  ·cases ht
 | convert t u x =>
  simp only[touch]at ht;split at ht
  ·rename_i b' o es n c e;cases ht;intro b2 o2 es2 n2 c2 e2 j h1 h2;rw[e]at e2;cases e2;exact⟨rfl,h1,h2⟩
  ·cases ht
 | _=>trivial
theorem heads_ok (B:Env P tt ft hk w0 Q)(g:Gd E w0 h w){l:List Oper}{L:Act->Prop}:∀ {js:List Nat} {a:Ac} {z:List (Nat × Nat × Nat)} {a':Ac} {z':List (Nat × Nat × Nat)},heads P tt l h js a z=some (a',z')->a.Wf h->(∀i ∈ z,i.1<h.n) ->
  a'.Wf h/\(∀i ∈ z,i ∈ z')/\(∀i ∈ z',i.1<h.n)/\a'.pls=a.pls /\ ∀ {S:World->Prop},(∀v,S v->Hold E w0 h z' v)->L (a'.act E)->dG P l.toArray S L (js.flatMap fun i=>(l.drop i).take 1) (a.act E)
 | [],a,z,a',z',hh,ha,hz=>by
  cases hh;exact⟨ha,fun _ h=>h,hz,rfl,fun _ hL=>cP hL⟩
 | j::js,a,z,a',z',hh,ha,hz=>by
  rw[heads]at hh;split at hh
  ·cases hh
  ·rename_i o ho;have tk:((j::js).flatMap fun i=>(l.drop i).take 1)=o::(js.flatMap fun i=>(l.drop i).take 1):=by
    rw[lget_eq]at ho;obtain⟨hl,he⟩:=List.getElem?_eq_some_iff.1 ho;rw[List.flatMap_cons,List.drop_eq_getElem_cons hl,he];rfl
   rw[tk];have pls_put:∀(a:Ac) d v,(a.put d v).pls=a.pls:=fun a d v=>by
    unfold Ac.put;cases d with
    | none=>rfl
    | some k=>simp only;split<;>rfl
   split at hh
   ·cases hh
   ·rename_i hw;obtain⟨q1,q2,q3,q4,q5⟩:=heads_ok B g (L:=L) hh (put_wf ha (by simp only[V.wf]) o.dst) hz;refine⟨q1,q2,q3,q4.trans (pls_put _ _ _),fun hS hL=>fD (want_den hw) ?_⟩;have:=q5 hS hL;rw[act_put]at this
    simpa only[V.den] using this
   ·rename_i hw;split at hh
    ·cases hh
    ·rename_i hb;have lens:∀ {i:Nat} {cl:List V},h.get i=some (.cells cl true)->cl.length<=E.C i:=fun he=>((g.ent he).2.2.2.1 rfl).1;split at hh
     ·rename_i b hl ht;split at hh
      ·rename_i v hv;split at hh
       ·rename_i e0 hgb;have hbn:b.1<h.n:=g.wf.lt hgb;have hlook:∀ {i e},oneLook h b.1 i=some e->i=b.1/\h.get i=some e:=fun {i e} he=>by
         unfold oneLook at he;split at he
         ·rename_i q;exact⟨Nat.eq_of_beq_eq_true q,he⟩
         ·cases he
        have hvw:v.wf h.n h.zn:=evQ_wf B.tyk (fun he=>g.wf.wf (hlook he).2) (ev_wf ha) hv;obtain⟨q1,q2,q3,q4,q5⟩:=heads_ok B g (L:=L) hh (put_wf ha hvw o.dst) (fun i hi=>by
         rcases List.mem_cons.1 hi with rfl|hi
         ·exact hbn
         ·exact hz i hi)
        refine⟨q1,fun i hi=>q2 i (List.mem_cons_of_mem _ hi),q3,q4.trans (pls_put _ _ _),fun hS hL=>cK (v.den E) (want_den hw) (fun w' hs=>?_) hl ?_⟩
        ·have hb2:=hS w' hs b (q2 b List.mem_cons_self);exact evQ_ok B.tyk B.pe (fun i j=>i=b.1/\b.2.1<=j/\j<b.2.2) (fun {i c u} he j v hj hv=>by
          obtain⟨e1,he1⟩:=hlook he;subst e1;exact(hb2 _ he1).2 j v hj.2.1 hj.2.2 hv) (fun {i es c} he=>by
          obtain⟨e1,he1⟩:=hlook he;subst e1;exact(hb2 _ he1).2) lens (ev_wf ha) (act_eval ha E) o (touch_ok ht) hb hv
        ·have:=q5 hS hL;rw[act_put]at this;exact this
       ·cases hh
      ·cases hh
     ·split at hh
      ·rename_i v hv;have hvw:v.wf h.n h.zn:=evQ_wf B.tyk (fun he=>by cases he) (ev_wf ha) hv;obtain⟨q1,q2,q3,q4,q5⟩:=heads_ok B g (L:=L) hh (put_wf ha hvw o.dst) hz;refine⟨q1,q2,q3,q4.trans (pls_put _ _ _),fun hS hL=>cA (v.den E) (want_den hw) (fun w'=>?_) ?_⟩
       ·rename_i hnl;exact evQ_ok B.tyk B.pe (fun _ _=>True) (fun he=>by cases he) (fun he=>by cases he) lens (ev_wf ha) (act_eval ha E) o (by cases o.op<;>simp[opK]) hb hv
       ·have:=q5 hS hL;rw[act_put]at this;exact this
      ·cases hh
theorem Gd.setFz (g:Gd E w0 h w){fz:List (Nat × Nat × Nat)}(hf:∀i ∈ fz,i.1<h.n):Gd E w0 (h.setFz fz) w:=⟨g.bel,⟨g.wf.lt,g.wf.wf,hf⟩,g.ent,g.inj⟩
theorem put_pls (a:Ac)(d:Option Tmp)(v:V):(a.put d v).pls=a.pls:=by
 unfold Ac.put;cases d with
 | none=>rfl
 | some k=>simp only;split<;>rfl
theorem call_ok (B:Env P tt ft hk w0 Q)(g:Gd E w0 h w)(ha:a.Wf h){i:FI}{f:FuncId}{as:List V}{dst:Option Tmp}{cf:Cf}{K':Exit->Act->World->Prop}{S:World->Prop}{L:Array Bool}(hi:ft f=some i)(hw:V.wfL h.n h.zn as)
  (he:enterF i as dst cf a h k = .go c' a' h' k') (hOk:Ok P w0 Q c' a' h' k') (hK:Kont P w0 Q E h (fzC cf h.fz) a.pls k K') (hf:∀i ∈ fzC cf h.fz,i ∈ h.fz) (hv:CfV a.pls cf) (hL:CfL L cf) (hA:SaOk S) (hS:okC cf=true -> ∀v,Hold E w0 h h.fz v->S v) :
  Calls P f (V.denL E as).toArray w fun e w'=>∃v,e = .returned v/\ContP P S L K' cf ((a.act E).put dst v) w':=by
 unfold enterF at he;split at he
 ·rename_i cd hb hl;cases he;simp only[Nat.ble_eq]at hl;obtain⟨q1,_,q3⟩:=B.fnk f i hi;refine calls_of_wp q1 hb ?_;have:=hOk E w _ g (enter_wf hw hl) (q3 _ hb) ⟨K',S,L,hK,hf,fun _ h=>h,ha,hv,hL,hA,hS,rfl⟩ (fun _ h=>h) (fun _=>True) (fun _ _ _=>trivial) fun _ _ _=>trivial;rw[enter_act E hl]at this;exact this
 ·cases he
theorem stp_ok (B:Env P tt ft hk w0 Q)(hs:stp P tt ft hk c a h k = .go c' a' h' k')(hOk:Ok P w0 Q c' a' h' k'):Ok P w0 Q c a h k:=by
 intro E w K g ha hv hK hf S hA hS;have same:∀ {K2:Exit->Act->World->Prop} {c2:Cf} {k2:List KF},Ok P w0 Q c2 a h k2->CfV a.pls c2->Kont P w0 Q E h (fzC c2 h.fz) a.pls k2 K2->(∀i ∈ fzC c2 h.fz,i ∈ h.fz)->CfP P (fun _=>True) K2 c2 (a.act E) w:=fun o v q f=>o E w _ g ha v q f (fun _=>True) (fun _ _ _=>trivial) fun _ _ _=>trivial;cases c with
 | code c =>
  cases c with
  | skip=>cases hs;exact wp_skip (same hOk trivial hK hf)
  | label l=>cases hs;exact wp_label (same hOk trivial hK hf)
  | ret=>cases hs;exact wp_ret (same hOk trivial hK hf)
  | exit i=>cases hs;exact wp_exit (same hOk trivial hK hf)
  | seq x y =>
   cases hs;simp only[CfV,plB,Bool.and_eq_true]at hv;exact wp_seq (same (c2:=.code x) hOk hv.1 ⟨hv.2,K,hK,rfl⟩ hf)
  | block id c =>
   cases hs;exact wp_block (same (c2:=.code c) hOk hv ⟨K,hK,rfl⟩ hf)
  | scope c =>
   cases hs;exact wp_scope_straight (same (c2:=.code c) hOk hv ⟨K,hK,rfl⟩ hf)
  | loop c =>
   cases hs;exact LW.wp (LW.of (same (c2:=.code c) hOk hv ⟨hv,K,hK,rfl⟩ hf))
  | cond x y z =>
   simp only[CfV,plB,Bool.and_eq_true]at hv;simp only[stp]at hs;split at hs
   ·rename_i e;cases hs;exact wp_cond_true (by rw[act_eval ha,e,V.den]) (same (c2:=.code y) hOk hv.1 hK hf)
   ·rename_i e;cases hs;exact wp_cond_false (by rw[act_eval ha,e,V.den]) (same (c2:=.code z) hOk hv.2 hK hf)
   ·cases hs
  | region id l d =>
   cases d with
   | false =>
    cases hs;have:=same (c2:=.ops l.toList l.toList) hOk trivial hK hf;exact wp_region_list (by simpa [CfP] using this)
   | true =>
    simp only[stp]at hs;split at hs
    ·rename_i p hp;cases hs;simp only[CfV,plB,hp,Bool.and_eq_true,decide_eq_true_eq]at hv;obtain⟨⟨⟨⟨v1,v2⟩,v3⟩,v5⟩,v4⟩:=hv;have g2:=g.step (Kept.drew w (fun _=>False));have q:=hOk E w.drew K g2 ha (by simp only[CfV,Bool.and_eq_true,Array.toArray_toList];exact⟨⟨v1,v2⟩,v5⟩) hK (fun _ h=>h) (Hold E w0 h h.fz) (fun v o hh=>hh.alloc o) (fun _ _ h=>h);have q2:=q _ v3;rw[v4]at q2;have:=dE (P:=P) (l:=l.toList) (Q:=K) (a:=a.act E) (w:=w) (id:=id) p.M p.J (Hold E w0 h h.fz) B.mix q2;show Code.wp P (.region id l true) K (a.act E) w
     simpa using this
    ·cases hs
  | goto l=>cases hs
  | rangeFunc f p x y=>cases hs
  | refuse y=>cases hs
 | ops l r =>
  cases r with
  | nil=>cases hs;exact same (c2:=.ex .n) hOk trivial hK hf
  | cons o r =>
   simp only[stp]at hs;split at hs
   ·cases hs
   ·rename_i hw;cases hs;refine wpList_off (want_den hw) ?_;have:=hOk E w K g (put_wf ha (by simp only[V.wf]) o.dst) trivial (by rw[put_pls];exact hK) hf (fun _=>True) (fun _ _ _=>trivial) fun _ _ _=>trivial;rw[act_put]at this;simp only[V.den]at this;exact this
   ·rename_i hw;split at hs
    ·rename_i v h1 ho;cases hs;refine wpList_on (want_den hw) (op_val B g ha ho fun E' w' st hvw=>?_);have hK2:=kont_mono g.wf st.ext st.n st.zn k (fun i hi=>st.fr i hi) (fun i hi=>hi) hK;have:=hOk E' w' K st.gd (put_wf (wf_mono ha st.n st.zn) hvw o.dst) trivial (by rw[put_pls];show Kont P w0 Q E' h' h'.fz _ k K;rw[st.fz];exact hK2) (fun _ h=>h) (fun _=>True) (fun _ _ _=>trivial) (fun _ _ _=>trivial);rw[act_put,act_ext ha st.ext]at this;exact this
    ·rename_i f as ho;split at hs
     ·rename_i i hi;have hb:∃cd,i.fn.body=some cd:=by
       unfold enterF at hs;split at hs
       ·rename_i cd hb _;exact⟨cd,hb⟩
       ·cases hs
      obtain⟨cd,hb⟩:=hb;exact wpList_on (want_den hw) (op_call B ha ho hi hb fun hwf=>call_ok (S:=fun _=>True) (L:=#[]) B g ha hi hwf hs hOk hK (fun _ h=>h) trivial trivial (fun _ _ _=>trivial) fun _ _ _=>trivial)
     ·cases hs
    ·cases hs
 | pl l p st fz ok =>
  simp only[CfV]at hv;cases st with
  | nil =>
   cases hs;intro L hL;simp only[planB]at hL;refine eM (by simpa using hL) ?_;exact hOk E w K (g.setFz fun i hi=>g.wf.fzl i (hf i hi)) ha trivial (kont_mono (h':=h.setFz fz) g.wf (Ext.refl _ _ _) (Nat.le_refl _) (Nat.le_refl _) k (fun _ _=>SameE.refl _ _ _) (fun _ h=>h) hK) (fun _ h=>h) (fun _=>True) (fun _ _ _=>trivial) (fun _ _ _=>trivial)
  | h hs' st =>
   simp only[stp]at hs;split at hs
   ·rename_i hnd;split at hs
    ·rename_i a2 z hh;cases hs;intro L hL;simp only[planB,Bool.and_eq_true]at hL;simp only[Bool.and_eq_true]at hv;have fin:∀S':World->Prop,SaOk S'->(∀v,S' v->Hold E w0 h z v)->(∀v,S' v->S v)->(okC (.pl l p st fz ok)=true -> ∀v,Hold E w0 (h.setFz z) z v->S' v)->((hs'.all fun i=>match l.toArray[i]? with|some o=>!hG p.J i o|none=>true)=true\/S' w) ->
       Own.Rest P l.toArray p.M p.J S K (planN (.h hs' st)) L (a.act E) w:=fun S' k0 k1 k2 k3 k4=>by
      obtain⟨q1,q2,q3,q4,q5⟩:=heads_ok B g (L:=fun A=>Own.Rest P l.toArray p.M p.J S' K (planN st) (hs'.foldl (fun b i=>b.setIfInBounds i true) L) A w) hh ha g.wf.fzl;refine stage_switch (S:=S) S' k2 ?_;refine bQ hs' (by simp only[Bool.and_eq_true];exact⟨hv.1,hL.1⟩) rfl rfl (kont_pan B.pan k hK) k0 k4 ?_;refine q5 k1 ?_;have:=hOk E w K (g.setFz q3) q1 (by simp only[CfV,Bool.and_eq_true];exact hv) (by rw[q4];exact kont_mono (h':=h.setFz z) g.wf (Ext.refl _ _ _) (Nat.le_refl _) (Nat.le_refl _) k (fun _ _=>SameE.refl _ _ _) (fun _ h=>h) hK) (fun i hi=>q2 i (hf i hi)) S' k0 k3;exact this _ hL.2
     have qs:=heads_ok B g (L:=fun _=>True) hh ha g.wf.fzl;cases ok with
     | true=>exact fin (Hold E w0 h z) (fun v o hh=>hh.alloc o) (fun _ h=>h) (fun v hv=>hS rfl v (hv.sub qs.2.1)) (fun _ _ h=>h) (.inr (g.hold z))
     | false=>exact fin (fun v=>S v/\Hold E w0 h z v) (fun v o hh=>⟨hA v o hh.1,hh.2.alloc o⟩) (fun _ h=>h.2) (fun _ h=>h.1) nofun (.inl hnd)
    ·cases hs
   ·cases hs
  | o j st =>
   cases hs;intro L hL;simp only[planB,Bool.and_eq_true,beq_iff_eq]at hL;refine fL j hL.1 rfl ?_;exact hOk E w K g ha hv hK hf S hA hS L (by rw[hL.1];exact List.mem_singleton.2 rfl) hL.2
  | w i j r q=>cases hs
 | pw l p j st fz ok =>
  simp only[CfV]at hv;simp only[stp]at hs;split at hs
  ·cases hs
  ·rename_i o ho;have tk:(l.drop j).take 1 = [o]:=by
    rw[lget_eq]at ho;obtain⟨hl,he⟩:=List.getElem?_eq_some_iff.1 ho;rw[List.drop_eq_getElem_cons hl,he];rfl
   have or2:(ok || !p.J.testBit j)=true->p.J.testBit j=true->ok=true:=fun h1 h2=>by cases ok<;>simp_all
   split at hs
   ·rename_i hw hj;cases hs;intro L _ hL;rw[tk];refine wpList_off (want_den hw) (cS (fun q=>hS (or2 hj q) _ (g.hold _)) ?_);have:=hOk E w K g (put_wf ha (by simp only[V.wf]) o.dst) hv (by rw[put_pls];exact hK) hf S hA hS;rw[act_put]at this;simp only[V.den]at this;exact this _ hL
   ·rename_i hw hj;split at hs
    ·rename_i v h1 hop;cases hs;intro L _ hL;rw[tk];refine wpList_on (want_den hw) (op_val B g ha hop fun E' w' st' hvw=>?_);have hSS:ok=true -> ∀v,Hold E' w0 h' h'.fz v->S v:=fun q v hh=>hS q v (by
      rw[st'.fz]at hh;exact hh.back g.wf st'.ext st'.fr)
     refine cS (fun q=>hSS (or2 hj q) _ (st'.gd.hold _)) ?_;have hK2:=kont_mono g.wf st'.ext st'.n st'.zn k (fun i hi=>st'.fr i (hf i hi)) (fun i hi=>hi) hK;have:=hOk E' w' K st'.gd (put_wf (wf_mono ha st'.n st'.zn) hvw o.dst) hv (by rw[put_pls];exact hK2) (fun i hi=>by rw[st'.fz];exact hf i hi) S hA hSS;rw[act_put,act_ext ha st'.ext]at this;exact this _ hL
    ·rename_i f as hop;split at hs
     ·rename_i i hi;have hb:∃cd,i.fn.body=some cd:=by
       unfold enterF at hs;split at hs
       ·rename_i cd hb _;exact⟨cd,hb⟩
       ·cases hs
      obtain⟨cd,hb⟩:=hb;intro L _ hL;rw[tk];refine wpList_on (want_den hw) (op_call B ha hop hi hb fun hwf=>?_);refine(call_ok (S:=S) (L:=L.setIfInBounds j true) B g ha hi hwf hs hOk hK hf hv hL hA hS).mono ?_;rintro e w' ⟨v,rfl,q1,q2⟩;exact⟨v,rfl,cS (fun q=>q1 (or2 hj q)) q2⟩
     ·cases hs
    ·split at hs
     ·rename_i v h1 hJ hop;cases hs;intro L _ hL;rw[tk];have g2:Gd E w0 (h.setFz fz) w:=g.setFz fun i hi=>g.wf.fzl i (hf i hi);have ha2:a.Wf (h.setFz fz):=ha;refine wpList_on (want_den hw) (op_val B g2 ha2 hop fun E' w' st' hvw=>?_);refine cS (fun q=>by rw[hJ]at q;cases q) ?_;have hK2:=kont_mono (h':=h') g.wf st'.ext st'.n st'.zn k (fun i hi=>st'.fr i hi) (fun i hi=>hi) hK;have:=hOk E' w' K st'.gd (put_wf (wf_mono ha st'.n st'.zn) hvw o.dst) hv (by rw[put_pls];exact hK2) (fun i hi=>by rw[st'.fz];exact hi) S hA nofun;rw[act_put,act_ext ha st'.ext]at this;exact this _ hL
     ·cases hs
   ·cases hs
 | ex e =>
  cases k with
  | nil=>cases hs
  | cons x k =>
   cases x with
   | seq c =>
    obtain⟨hp,K',hK',rfl⟩:=hK;cases e with
    | n=>cases hs;exact same (c2:=.code c) hOk hp hK' hf
    | exit q=>cases hs;exact same (K2:=K') (c2:=.ex (.exit q)) hOk trivial hK' hf
    | goto q=>cases hs;exact same (K2:=K') (c2:=.ex (.goto q)) hOk trivial hK' hf
    | ret=>cases hs;exact same (K2:=K') (c2:=.ex .ret) hOk trivial hK' hf
   | lp c =>
    obtain⟨hp,K',hK',rfl⟩:=hK;cases e with
    | n=>cases hs;exact LW.of (same (c2:=.code c) hOk hp ⟨hp,K',hK',rfl⟩ hf)
    | exit q=>cases hs;exact same (K2:=K') (c2:=.ex (.exit q)) hOk trivial hK' hf
    | goto q=>cases hs;exact same (K2:=K') (c2:=.ex (.goto q)) hOk trivial hK' hf
    | ret=>cases hs;exact same (K2:=K') (c2:=.ex .ret) hOk trivial hK' hf
   | blk i =>
    obtain⟨K',hK',rfl⟩:=hK;cases e with
    | exit q =>
     simp only[stp]at hs;split at hs
     ·rename_i e;cases hs;have:=same (c2:=.ex .n) hOk trivial hK' hf;simp only[CfP,Exit.inBlock,Ex.out]at this ⊢;rw[if_pos (Nat.eq_of_beq_eq_true e)];exact this
     ·rename_i e;cases hs;have:=same (c2:=.ex (.exit q)) hOk trivial hK' hf;simp only[CfP,Exit.inBlock,Ex.out]at this ⊢;rw[if_neg (fun q2=>by rw[q2,Nat.beq_refl]at e;cases e)];exact this
    | n=>cases hs;exact same (K2:=K') (c2:=.ex .n) hOk trivial hK' hf
    | goto q=>cases hs;exact same (K2:=K') (c2:=.ex (.goto q)) hOk trivial hK' hf
    | ret=>cases hs;exact same (K2:=K') (c2:=.ex .ret) hOk trivial hK' hf
   | sc =>
    obtain⟨K',hK',rfl⟩:=hK;cases e with
    | goto q=>cases hs
    | n=>cases hs;exact same (K2:=K') (c2:=.ex .n) hOk trivial hK' hf
    | exit q=>cases hs;exact same (K2:=K') (c2:=.ex (.exit q)) hOk trivial hK' hf
    | ret=>cases hs;exact same (K2:=K') (c2:=.ex .ret) hOk trivial hK' hf
   | fr dst cf b fn fzS =>
    have fin:∀ {l:List V},resL tt a h fn.results.toList=some l->Ok P w0 Q cf (b.put dst (resV l)) (h.setFz fzS) k->(e = .n\/e = .ret)->CfP P S K (.ex e) (a.act E) w:=fun {l} hl hO he=>by
     obtain⟨K',S',L,q1,q2,q3,q4,q5,q6,q8,q7,rfl⟩:=hK;obtain⟨r1,r2⟩:=results_ok (P:=P) B.tyk g ha hl;have hO2:=hO E w K' (g.setFz fun i hi=>g.wf.fzl i (q3 i hi)) (put_wf (a:=b) (h:=h) q4 r2 dst) (by rw[put_pls];exact q5) (by rw[put_pls];exact kont_mono (h':=h.setFz fzS) g.wf (Ext.refl _ _ _) (Nat.le_refl _) (Nat.le_refl _) k (fun _ _=>SameE.refl _ _ _) (fun _ h=>h) q1) q2 S' q8 q7;rw[act_put]at hO2;have key:ContP P S' L K' cf ((b.act E).put dst ((resV l).den E)) w:=by
      cases cf with
      | ops l r=>exact hO2
      | pl l p st fz ok=>exact⟨fun q=>q7 q _ (g.hold _),hO2 _ q6⟩
      | code c=>exact q6.elim
      | ex e=>exact q6.elim
      | pw l p j r fz ok=>exact q6.elim
     rcases he with rfl|rfl
     ·exact⟨rfl,_,r1,_,rfl,key⟩
     ·exact⟨rfl,_,r1,_,rfl,key⟩
    cases e with
    | n =>
     simp only[stp]at hs;split at hs
     ·rename_i l hl;cases hs;exact fin hl hOk (.inl rfl)
     ·cases hs
    | ret =>
     simp only[stp]at hs;split at hs
     ·rename_i l hl;cases hs;exact fin hl hOk (.inr rfl)
     ·cases hs
    | exit q=>cases hs
    | goto q=>cases hs
theorem enter_no {i:FI}{as:List V}{dst:Option Tmp}{cf:Cf}:(∃c' a' h' k',enterF i as dst cf a h k = .go c' a' h' k')\/enterF i as dst cf a h k = .bad:=by
 unfold enterF;split
 ·exact .inl ⟨_,_,_,_,rfl⟩
 ·exact .inr rfl
theorem stp_end {r:Rs}(hs:stp P tt ft hk c a h k=r):(∃c' a' h' k',r = .go c' a' h' k')\/r = .bad\/(∃e,c = .ex e/\k = []/\r = .fin e a h)\/(∃l p i j x y fz ok,c = .pl l p (.w i j x y) fz ok/\r = .two (.pw l p i x fz ok) (.pw l p j y fz ok) a h k):=by
 subst hs;have go:∀ {c' a' h' k'},(∃c'' a'' h'' k'',Rs.go c' a' h' k' = .go c'' a'' h'' k''):=⟨_,_,_,_,rfl⟩;cases c with
 | code c =>
  cases c<;>first|exact .inl go|exact .inr (.inl rfl)|skip
  all_goals
   simp only[stp];split<;>first|exact .inl go|exact .inr (.inl rfl)|skip
   all_goals (split<;>first|exact .inl go|exact .inr (.inl rfl))
 | ops l r =>
  cases r with
  | nil=>exact .inl go
  | cons o r =>
   simp only[stp];split
   ·exact .inr (.inl rfl)
   ·exact .inl go
   ·split
    ·exact .inl go
    ·split
     ·exact(enter_no).elim .inl fun e=>.inr (.inl e)
     ·exact .inr (.inl rfl)
    ·exact .inr (.inl rfl)
 | pl l p st fz ok =>
  cases st with
  | nil=>exact .inl go
  | h H r =>
   simp only[stp];split
   ·split
    ·exact .inl go
    ·exact .inr (.inl rfl)
   ·exact .inr (.inl rfl)
  | o j r=>exact .inl go
  | w i j x y=>exact .inr (.inr (.inr ⟨_,_,_,_,_,_,_,_,rfl,rfl⟩))
 | pw l p j r fz ok =>
  simp only[stp];split
  ·exact .inr (.inl rfl)
  ·split
   ·exact .inl go
   ·split
    ·exact .inl go
    ·split
     ·exact(enter_no).elim .inl fun e=>.inr (.inl e)
     ·exact .inr (.inl rfl)
    ·split
     ·exact .inl go
     ·exact .inr (.inl rfl)
   ·exact .inr (.inl rfl)
 | ex e1 =>
  cases k with
  | nil=>exact .inr (.inr (.inl ⟨e1,rfl,rfl,by cases e1<;>rfl⟩))
  | cons x k =>
   cases x<;>cases e1<;>first|exact .inl go|exact .inr (.inl rfl)|skip
   all_goals
    simp only[stp];split<;>first|exact .inl go|exact .inr (.inl rfl)
theorem two_ok {l:List Oper}{p:Pl}{i j:Nat}{x y:PT}{fz:List (Nat × Nat × Nat)}{ok:Bool}(h1:Ok P w0 Q (.pw l p i x fz ok) a h k)(h2:Ok P w0 Q (.pw l p j y fz ok) a h k):Ok P w0 Q (.pl l p (.w i j x y) fz ok) a h k:=by
 intro E w K g ha hv hK hf S hA hS L hL;simp only[planB,Bool.and_eq_true,beq_iff_eq]at hL;simp only[CfV,planE,Bool.and_eq_true,decide_eq_true_eq]at hv;obtain⟨⟨v1,v2⟩,⟨v3,v4⟩,v5⟩:=hv;refine zO i j hL.1.1 rfl rfl ?_ ?_
 ·exact h1 E w K g ha (by simp only[CfV,Bool.and_eq_true];exact⟨⟨v1,v2⟩,v3⟩) hK hf S hA hS L (by rw[hL.1.1];exact List.mem_cons_self) hL.1.2
 ·have:=h2 E w K g ha (by simp only[CfV,Bool.and_eq_true];exact⟨⟨v1,v2⟩,v4⟩) hK hf S hA hS L (by rw[hL.1.1];exact List.mem_cons_of_mem _ List.mem_cons_self) hL.2;rw[<- v5]at this;exact this
theorem run_ok (B:Env P tt ft hk w0 Q){ck:Ex->Ac->Hp->Bool}(hQ:∀e a h,ck e a h=true -> ∀E w,Gd E w0 h w->a.Wf h->Q e.out (a.act E) w):∀(n:Nat) (c:Cf) (a:Ac) (h:Hp) (k:List KF),run P tt ft hk ck n c a h k=true->Ok P w0 Q c a h k
 | 0,c,a,h,k,hr=>by cases hr
 | n+1,c,a,h,k,hr=>by
  rw[run]at hr;rcases stp_end (P:=P) (tt:=tt) (ft:=ft) (hk:=hk) (c:=c) (a:=a) (h:=h) (k:=k) rfl with ⟨c',a',h',k',hs⟩|hs|⟨e,rfl,rfl,hs⟩|⟨l,p,i,j,x,y,fz,ok,rfl,hs⟩
  ·rw[hs]at hr;exact stp_ok B hs (run_ok B hQ n c' a' h' k' hr)
  ·rw[hs]at hr;cases hr
  ·rw[hs]at hr;intro E w K g ha _ hK _ S _ _;rw[show K=Q from hK];exact hQ e a h hr E w g ha
  ·rw[hs]at hr;simp only[Bool.and_eq_true]at hr;exact two_ok (run_ok B hQ n _ _ _ _ hr.1) (run_ok B hQ n _ _ _ _ hr.2)
end
section
variable {P:Program} {tt:TypeId->Option TJ} {ft:FuncId->Option FI} {hk:FuncId->List V->Hp->Option (V × Hp)}
def h0:Hp:=⟨0,0,.e,[]⟩
def tells (P:Program)(tt:TypeId->Option TJ)(ft:FuncId->Option FI)(hk:FuncId->List V->Hp->Option (V × Hp))(f:FuncId)(as:List V)(n:Nat):Bool:=match ft f with
 | some i=>match i.fn.body,Nat.ble as.length i.fn.ntmps with
  | some c,true=>run P tt ft hk (fun e a h=>match e,resL tt a h i.fn.results.toList with
    | .ret,some [.b true]=>true
    | .n,some [.b true]=>true
    | _,_=>false) n (.code c) ⟨argsT as 0 .e,i.fn.ntmps,i.pls⟩ h0 []
  | _,_=>false
 | none=>false
theorem h0_gd (E:En)(w:World):Gd E w h0 w:=⟨Below.refl _ _,⟨nofun,nofun,nofun⟩,nofun,nofun⟩
theorem tells_ok {f:FuncId}{as:List V}{n:Nat}(w:World)(B:∀Q,PanOk Q->Env P tt ft hk w Q)(hw:V.wfL 0 0 as)(ht:tells P tt ft hk f as n=true)(E:En) :
  Calls P f (V.denL E as).toArray w fun e w'=>e = .returned (.bool true)/\Below w.heap.size w w':=by
 unfold tells at ht;split at ht
 ·rename_i i hi;split at ht
  ·rename_i c hb hl;simp only[Nat.ble_eq]at hl
   let R:Ending->World->Prop:=fun e w'=>e = .returned (.bool true)/\Below w.heap.size w w'
   have B1:=B (bodyPost P i.fn R) fun c a t w h=>h;obtain⟨q1,_,q3⟩:=B1.fnk f i hi;refine calls_of_wp q1 hb ?_;have ok:=run_ok B1 (fun e a h hc E w' g ha=>by
    have hfin:(e = .ret\/e = .n)/\resL tt a h i.fn.results.toList=some [.b true]:=by
     split at hc
     ·exact⟨.inl rfl,by assumption⟩
     ·exact⟨.inr rfl,by assumption⟩
     ·cases hc
    obtain⟨r1,_⟩:=results_ok (P:=P) B1.tyk g ha hfin.2;simp only[resV,V.den]at r1;rcases hfin.1 with rfl|rfl
    ·exact⟨rfl,_,r1,rfl,g.bel⟩
    ·exact⟨rfl,_,r1,rfl,g.bel⟩) n _ _ _ _ ht
   have:=ok E w _ (h0_gd E w) (enter_wf hw hl) (q3 c hb) rfl (fun _ h=>h) (fun _=>True) (fun _ _ _=>trivial) fun _ _ _=>trivial;rw[enter_act E hl]at this;exact this
  ·cases ht
 ·cases ht
end

def v1:V->Value->Bool
 | .i k n,.int k' m=>decide (k=k')&&n==m
 | .b x,.bool y=>x==y
 | .s [],.string t=>t.data.toList.isEmpty
 | .o (.pointer none),.pointer none=>true
 | .o (.slice none a c),.slice none n d=>a==n&&c==d
 | .o (.map none),.map none=>true
 | .o .nilFunc,.nilFunc=>true
 | .o .nilIface,.nilIface=>true
 | _,_=>false
def vL:List V->List Value->Bool
 | [],[]=>true
 | a::l,x::m=>v1 a x&&vL l m
 | _,_=>false
theorem v1_ok {a:V}{x:Value}(h:v1 a x=true):(∀E,a.den E=x)/\a.one=true /\ ∀n zn,a.wf n zn:=by
 unfold v1 at h;split at h
 ·simp only[Bool.and_eq_true,decide_eq_true_eq,beq_iff_eq]at h;exact⟨fun E=>by simp only[V.den,h.1,h.2],rfl,fun _ _=>by simp only[V.wf]⟩
 ·simp only[beq_iff_eq]at h;exact⟨fun E=>by simp only[V.den,h],rfl,fun _ _=>by simp only[V.wf]⟩
 ·rename_i t;refine⟨fun E=>?_,rfl,fun _ _=>by simp only[V.wf]⟩;simp only[V.den]
  congr 1
  cases t with
  | mk d =>
   unfold mkS
   congr 1
   simp only[List.isEmpty_iff,Array.toList_eq_nil_iff]at h;rw[h];rfl
 ·exact⟨fun E=>by simp only[V.den],rfl,fun _ _=>by simp only[V.wf]⟩
 ·simp only[Bool.and_eq_true,beq_iff_eq]at h;exact⟨fun E=>by simp only[V.den,h.1,h.2],rfl,fun _ _=>by simp only[V.wf]⟩
 ·exact⟨fun E=>by simp only[V.den],rfl,fun _ _=>by simp only[V.wf]⟩
 ·exact⟨fun E=>by simp only[V.den],rfl,fun _ _=>by simp only[V.wf]⟩
 ·exact⟨fun E=>by simp only[V.den],rfl,fun _ _=>by simp only[V.wf]⟩
 ·cases h
theorem vL_ok:∀ {l:List V}{m:List Value},vL l m=true->(∀E,V.denL E l=m)/\oneVL l=true /\ ∀n zn,V.wfL n zn l
 | [],[],_=>⟨fun E=>rfl,rfl,fun _ _=>trivial⟩
 | a::l,x::m,h=>by
  simp only[vL,Bool.and_eq_true]at h;obtain⟨a1,a2,a3⟩:=v1_ok h.1;obtain⟨b1,b2,b3⟩:=vL_ok h.2;exact⟨fun E=>by rw[V.denL,a1,b1],by rw[oneVL,a2,b2];rfl,fun n zn=>⟨a3 n zn,b3 n zn⟩⟩
 | [],_::_,h=>by cases h
 | _::_,[],h=>by cases h
def kB (P:Program):TypeDesc->TK->Bool
 | .int k,.int k'=>decide (k=k')
 | .bool,.bool=>true
 | .string,.str=>true
 | .pointer _,.ptr=>true
 | .slice e,.sl e'=>e==e'
 | .map k e,.mp k' e'=>k==k'&&e==e'
 | .array n e,.arr n' e'=>n==n'&&e==e'
 | .struct fs,.st l=>fs.toList.mapM (fun f=>(P.info? f.type).map fun i=>(f.offset,f.type,i.size))==some l
 | .func _ _ _,.fn=>true
 | d,.o=>!d.isRow
 | _,_=>false
theorem kB_ok {P:Program}{d:TypeDesc}{k:TK}(h:kB P d k=true):kOk P d k:=by
 unfold kB at h;unfold kOk;split at h<;>first|trivial|(simp only[decide_eq_true_eq]at h;exact h)|(simp only[beq_iff_eq]at h;exact h)|(simp only[Bool.and_eq_true,beq_iff_eq]at h;exact h)|(cases h;done)|skip
 all_goals
  cases d<;>first|rfl|(simp_all[TypeDesc.isRow];done)|skip
def zB (i:TJ):Option Value->Bool
 | some (.agg a)=>isAgg' i.k&&vL i.z a.toList
 | some v=>!isAgg' i.k&&vL i.z [v]
 | none=>false
def tyB (P:Program)(t:TypeId)(i:TJ):Bool:=match P.info? t,P.underlying t with
 | some q,some d=>q.size==i.n&&q.bytes==i.bt&&zB i q.zero&&i.z.length==i.n&&kB P d i.k&&(!i.eq || plainEq P t)
 | _,_=>false
theorem zB_ok {i:TJ}{z:Option Value}(h:zB i z=true)(E:En):z=some ((zeroV i).den E)/\((zeroV i).den E).cells=(V.denL E i.z).toArray/\oneVL i.z=true /\ ∀n zn,V.wfL n zn i.z:=by
 unfold zB at h;split at h
 ·rename_i a;simp only[Bool.and_eq_true]at h;obtain⟨b1,b2,b3⟩:=vL_ok h.2;unfold zeroV;rw[if_pos h.1];simp only[V.den,b1,Value.cells];exact⟨trivial,trivial,b2,b3⟩
 ·rename_i v hv;simp only[Bool.and_eq_true,Bool.not_eq_true']at h;obtain⟨b1,b2,b3⟩:=vL_ok h.2;unfold zeroV;rw[h.1]
  match hz:i.z,h.2 with
  | [a],h2 =>
   rw[hz]at b1 b2 b3;have e:=b1 E;simp only[V.denL,List.cons.injEq,and_true]at e;simp only[Bool.false_eq_true,if_false,V.denL];rw[e];refine⟨rfl,?_,b2,b3⟩;cases v<;>first|rfl|exact absurd rfl (hv _)
  | [],h2=>cases h2
  | a::b::l,h2=>simp[vL]at h2
 ·cases h
theorem tyB_ok {P:Program}{t:TypeId}{i:TJ}(h:tyB P t i=true):TyOk P t i/\(i.eq=true->plainEq P t=true):=by
 unfold tyB at h;split at h
 ·rename_i q d hq hd;simp only[Bool.and_eq_true,beq_iff_eq]at h;obtain⟨⟨⟨⟨⟨h1,h2⟩,h3⟩,h4⟩,h5⟩,h6⟩:=h;refine⟨⟨⟨q,hq,h1,h2⟩,fun E=>⟨q,hq,(zB_ok h3 E).1,(zB_ok h3 E).2.1⟩,fun E=>oneVL_den E (zB_ok h3 E).2.2.1,(zB_ok h3 ⟨fun _=>(0,0),fun _=>0,fun _=>(⟨0,0,none⟩,0)⟩).2.2.2,h4,⟨d,hd,kB_ok h5⟩⟩,fun e=>?_⟩;rw[e]at h6;exact h6
 ·cases h
def Tr.all {α:Type}(p:Nat -> α->Bool):Tr α->Nat->Nat->Bool
 | .e,_,_=>true
 | .n l v r,a,b=>(match v with|some x=>p b x|none=>true)&&l.all p (2*a) (a+b)&&r.all p (2*a) (2*a+b)
theorem Tr.all_ok {α:Type}{p:Nat -> α->Bool}:∀ {t:Tr α} {a b:Nat},t.all p a b=true -> ∀ {i:Nat} {x:α},t.get i=some x->p (a*i+b) x=true
 | .e,a,b,h,i,x,hi=>by rw[Tr.get]at hi;cases hi
 | .n l v r,a,b,h,i,x,hi=>by
  simp only[Tr.all,Bool.and_eq_true]at h;obtain⟨⟨h1,h2⟩,h3⟩:=h;cases i with
  | zero =>
   simp only[Tr.get]at hi;rw[hi]at h1
   simpa using h1
  | succ i =>
   simp only[Tr.get]at hi;split at hi
   ·rename_i e;have:=Tr.all_ok h2 hi;have e2:=Nat.eq_of_beq_eq_true e;rw[show a*(i+1)+b=2*a*(i / 2)+(a+b) by
     have:i=2*(i / 2):=by omega
     rw[show 2*a*(i / 2)=a*(2*(i / 2)) by rw[Nat.mul_comm 2 a,Nat.mul_assoc],<- this,Nat.mul_succ];omega]
    exact this
   ·rename_i e;have:=Tr.all_ok h3 hi;have e2:i % 2≠0:=fun q=>by rw[q]at e;cases e
    rw[show a*(i+1)+b=2*a*(i / 2)+(2*a+b) by
     have:i=2*(i / 2)+1:=by omega
     rw[show 2*a*(i / 2)=a*(2*(i / 2)) by rw[Nat.mul_comm 2 a,Nat.mul_assoc]];rw[show a*(i+1)=a*(2*(i / 2)+2) by congr 1;omega,Nat.mul_add];omega]
    exact this
def tyL (P:Program)(T:Tr TJ):Nat->Nat->Prop
 | 0,_=>True
 | n+1,t=>((∃i,T.get t=some i/\tyB P t i=true)\/T.get t=none)/\tyL P T n (t+1)
theorem tyL_get {P:Program}{T:Tr TJ}:∀ {n t:Nat},tyL P T n t -> ∀ {j:Nat} {i:TJ},j<n->T.get (t+j)=some i->tyB P (t+j) i=true
 | n+1,t,h,0,i,_,hi=>by
  rw[Nat.add_zero]at hi ⊢;rcases h.1 with ⟨k,q1,q2⟩|q
  ·rw[hi]at q1;cases q1;exact q2
  ·rw[hi]at q;cases q
 | n+1,t,h,j+1,i,hj,hi=>by
  have:=tyL_get h.2 (j:=j) (i:=i) (by omega) (by rw[<- hi];congr 1;omega)
  rwa [show t+1+j=t+(j+1) by omega]at this
 | 0,_,_,_,_,hj,_=>absurd hj (Nat.not_lt_zero _)
def ltT (n:Nat)(j:Nat)(_:TJ):Bool:=Nat.blt j n
theorem tyL_ok {P:Program}{T:Tr TJ}{n:Nat}(h:tyL P T n 0)(hb:T.all (ltT n) 1 0=true):TTok P T.get /\ ∀t i,T.get t=some i->i.eq=true->plainEq P t=true:=by
 have k:∀ {t i},T.get t=some i->tyB P t i=true:=fun {t i} hi=>by
  have h1:=Tr.all_ok hb hi;simp only[ltT,Nat.blt_eq,Nat.one_mul,Nat.add_zero]at h1;have:=tyL_get h (j:=t) (i:=i) h1 (by rw[Nat.zero_add];exact hi)
  rwa [Nat.zero_add]at this
 exact⟨fun t i hi=>(tyB_ok (k hi)).1,fun t i hi=>(tyB_ok (k hi)).2⟩
def fnB (i : FI) : Bool := !(i.fn.name == "runtime.NumGoroutine") && (match i.fn.body with | some c => plB i.pls c | none => true)
def fnAll (T:Tr FI):List Func->Nat->Prop
 | [],_=>True
 | f::l,n=>((∃i,T.get n=some i/\i.fn=f/\fnB i=true)\/T.get n=none)/\fnAll T l (n+1)
theorem fnAll_get {T:Tr FI}:∀ {l:List Func} {n:Nat},fnAll T l n -> ∀ {j:Nat} {i:FI},j<l.length->T.get (n+j)=some i->l[j]? = some i.fn/\fnB i=true
 | f::l,n,h,0,i,hj,hi=>by
  rw[Nat.add_zero]at hi;rcases h.1 with ⟨k,q1,q2,q3⟩|q
  ·rw[hi]at q1;cases q1;exact⟨by rw[<- q2];rfl,q3⟩
  ·rw[hi]at q;cases q
 | f::l,n,h,j+1,i,hj,hi=>by
  have:=fnAll_get h.2 (j:=j) (i:=i) (by simpa using hj) (by rw[<- hi];congr 1;omega)
  simpa using this
 | [],_,_,_,_,hj,_=>absurd hj (Nat.not_lt_zero _)
def ltB (n:Nat)(j:Nat)(_:FI):Bool:=Nat.blt j n
theorem fn_ok {P:Program}{T:Tr FI}{l:List Func}{n:Nat}(hl:P.funcs=l.toArray)(h:fnAll T l 0)(hn:l.length=n)(hb:T.all (ltB n) 1 0=true) :
  ∀ f i, T.get f = some i → P.funcs[f]? = some i.fn ∧ (i.fn.name == "runtime.NumGoroutine") = false ∧ ∀ c, i.fn.body = some c → plB i.pls c = true := fun f i hi => by
 have h1:=Tr.all_ok hb hi;simp only[ltB,Nat.blt_eq,Nat.one_mul,Nat.add_zero]at h1;obtain⟨h3,h2⟩:=fnAll_get h (j:=f) (i:=i) (by omega) (by rw[Nat.zero_add];exact hi);simp only[fnB,Bool.and_eq_true,Bool.not_eq_true']at h2;refine⟨?_,h2.1,fun c hc=>?_⟩
 ·rw[hl,List.getElem?_toArray];exact h3
 ·have:=h2.2;rw[hc]at this;exact this

def hkCl (al:List V)(h:Hp):Option (V × Hp):=match al with
 | [.m r]=>match h.get r with
  | some (.map es cl)=>some (.m h.n,h.new (.map es cl))
  | _=>none
 | _=>none
theorem hkCl_ok {P:Program}{f:FuncId}{w0 w:World}{E:En}{h h':Hp}{al:List V}{r:V}
  (hc:∀b es cl w,w.heap[b]? = some (.map es cl)->Calls P f #[.map (some b)] w fun e w'=>e = .returned (.map (some w.heap.size))/\w'=w.alloc (.map es cl))
  (hh:hkCl al h=some (r,h')) (g:Gd E w0 h w):Calls P f (V.denL E al).toArray w fun e w'=>∃E',e = .returned (r.den E')/\Stp w0 E h E' h' w'/\r.wf h'.n h'.zn:=by
 unfold hkCl at hh;split at hh
 ·rename_i m;split at hh
  ·rename_i es cl hm;cases hh;have ei:=g.ent hm;have hw:Ent.wf h.n h.zn (.map es cl):=g.wf.wf hm;have ex:=E.new_ext h.n h.zn (w.heap.size,0) 0;have hmo:mapO (E.new h.n (w.heap.size,0) 0) es cl=mapO E es cl:=by
    unfold mapO
    congr 2
    refine List.map_congr_left fun e he=>?_;rw[V.den_ext ex _ (hw e he).1,V.den_ext ex _ (hw e he).2]
   have hs:=new_ok (w1:=w) (e:=.map es cl) (ob:=mapO E es cl) (c:=0) g (Kept.refl _ _) (Ent.wf_mono (Nat.le_succ _) (Nat.le_refl _) _ hw) ⟨by simp only[En.new,if_true];exact g.size,by
    simp only[En.new,if_true];show (w.heap.push (mapO E es cl))[w.heap.size]? = _;rw[Array.getElem?_push_size];exact congrArg some hmo.symm⟩
   simp only[V.denL,V.den];refine(hc _ _ _ w ei.2).mono ?_;rintro e w' ⟨rfl,rfl⟩;exact⟨_,by simp only[En.new,if_true],hs,by simp only[V.wf];exact Nat.lt_succ_self _⟩
  ·cases hh
 ·cases hh

def oB:Value->Value->Bool
 | .pointer none,.pointer none=>true
 | .slice none a b,.slice none c d=>Nat.beq a c&&Nat.beq b d
 | .map none,.map none=>true
 | .nilFunc,.nilFunc=>true
 | .nilIface,.nilIface=>true
 | _,_=>false
def gB:Go.Fn->Go.Fn->Bool
 | .func a,.func b=>Nat.beq a b
 | _,_=>false
def cB:Option Nat->Option Nat->Bool
 | none,none=>true
 | some a,some b=>Nat.beq a b
 | _,_=>false
def nsB:List Nat->List Nat->Bool
 | [],[]=>true
 | a::l,b::m=>Nat.beq a b&&nsB l m
 | _,_=>false
mutual
def vB:V->V->Bool
 | .i k n,.i k' n'=>decide (k=k')&&decide (n=n')
 | .b x,.b y=>x==y
 | .s l,.s m=>nsB l m
 | .o x,.o y=>oB x y
 | .p i o,.p j u=>Nat.beq i j&&Nat.beq o u
 | .q i o e n c,.q i' o' e' n' c'=>Nat.beq i i'&&(Nat.beq o o'&&(Nat.beq e e'&&(Nat.beq n n'&&cB c c')))
 | .z i o e l,.z i' o' e' l'=>Nat.beq i i'&&(Nat.beq o o'&&(Nat.beq e e'&&Nat.beq l l'))
 | .m i,.m j=>Nat.beq i j
 | .g l,.g m=>vsB l m
 | .t l,.t m=>vsB l m
 | .f g a c,.f g' a' c'=>gB g g'&&(vsB a a'&&vsB c c')
 | _,_=>false
def vsB:List V->List V->Bool
 | [],[]=>true
 | a::l,b::m=>vB a b&&vsB l m
 | _,_=>false
end
def msB:List (V × V × Nat)->List (V × V × Nat)->Bool
 | [],[]=>true
 | a::l,b::m=>vB a.1 b.1&&(vB a.2.1 b.2.1&&(Nat.beq a.2.2 b.2.2&&msB l m))
 | _,_=>false
def eB:Ent->Ent->Bool
 | .dead,.dead=>true
 | .cells l u,.cells m v=>(u==v)&&vsB l m
 | .map es c,.map fs d=>Nat.beq c d&&msB es fs
 | .siter s p,.siter t q=>Nat.beq p q&&nsB s t
 | .miter m a b c,.miter m' a' b' c'=>cB m m'&&(Nat.beq a a'&&(nsB b b'&&Nat.beq c c'))
 | _,_=>false
theorem oB_eq:∀ {x y:Value},oB x y=true->x=y:=by
 intro x y h;unfold oB at h;split at h<;>first|rfl|(cases h;done)|skip
 simp only[Bool.and_eq_true,Nat.beq_eq]at h;obtain⟨rfl,rfl⟩:=h;rfl
theorem gB_eq {x y:Go.Fn}(h:gB x y=true):x=y:=by
 unfold gB at h;split at h
 ·simp only[Nat.beq_eq]at h;rw[h]
 ·cases h
theorem cB_eq {x y:Option Nat}(h:cB x y=true):x=y:=by
 unfold cB at h;split at h
 ·rfl
 ·simp only[Nat.beq_eq]at h;rw[h]
 ·cases h
theorem nsB_eq:∀ {x y:List Nat},nsB x y=true->x=y
 | [],[],_=>rfl
 | [],_::_,h=>by simp[nsB]at h
 | _::_,[],h=>by simp[nsB]at h
 | a::l,b::m,h=>by
  simp only[nsB,Bool.and_eq_true,Nat.beq_eq]at h;rw[h.1,nsB_eq h.2]
mutual
theorem vB_eq:∀ {x y:V},vB x y=true->x=y
 | .i k n,y,h=>by cases y<;>simp_all[vB]
 | .b x,y,h=>by cases y<;>simp_all[vB]
 | .s l,y,h=>by cases y<;>simp only[vB,reduceCtorEq]at h<;>rw[nsB_eq h]
 | .o x,y,h=>by cases y<;>simp only[vB,reduceCtorEq]at h<;>rw[oB_eq h]
 | .p i o,y,h=>by cases y<;>simp_all[vB]
 | .q i o e n c,y,h=>by
  cases y<;>simp only[vB,Bool.and_eq_true,Nat.beq_eq,reduceCtorEq]at h;obtain⟨rfl,rfl,rfl,rfl,h⟩:=h;rw[cB_eq h]
 | .z i o e l,y,h=>by cases y<;>simp_all[vB]
 | .m i,y,h=>by cases y<;>simp_all[vB]
 | .g l,y,h=>by cases y<;>simp only[vB,reduceCtorEq]at h<;>rw[vsB_eq h]
 | .t l,y,h=>by cases y<;>simp only[vB,reduceCtorEq]at h<;>rw[vsB_eq h]
 | .f g a c,y,h=>by
  cases y<;>simp only[vB,Bool.and_eq_true,reduceCtorEq]at h;rw[gB_eq h.1,vsB_eq h.2.1,vsB_eq h.2.2]
theorem vsB_eq:∀ {x y:List V},vsB x y=true->x=y
 | [],[],_=>rfl
 | [],_::_,h=>by simp[vsB]at h
 | _::_,[],h=>by simp[vsB]at h
 | a::l,b::m,h=>by
  simp only[vsB,Bool.and_eq_true]at h;rw[vB_eq h.1,vsB_eq h.2]
end
theorem msB_eq:∀ {x y:List (V × V × Nat)},msB x y=true->x=y
 | [],[],_=>rfl
 | [],_::_,h=>by simp[msB]at h
 | _::_,[],h=>by simp[msB]at h
 | (a,b,c)::l,(a',b',c')::m,h=>by
  simp only[msB,Bool.and_eq_true,Nat.beq_eq]at h;rw[vB_eq h.1,vB_eq h.2.1,h.2.2.1,msB_eq h.2.2.2]
theorem eB_eq {x y:Ent}(h:eB x y=true):x=y:=by
 unfold eB at h;split at h
 ·rfl
 ·simp only[Bool.and_eq_true,beq_iff_eq]at h;rw[h.1,vsB_eq h.2]
 ·simp only[Bool.and_eq_true,Nat.beq_eq]at h;rw[h.1,msB_eq h.2]
 ·simp only[Bool.and_eq_true,Nat.beq_eq]at h;rw[h.1,nsB_eq h.2]
 ·simp only[Bool.and_eq_true,Nat.beq_eq]at h;rw[cB_eq h.1,h.2.1,nsB_eq h.2.2.1,h.2.2.2]
 ·cases h
def subT:Tr Ent->Tr Ent->Bool
 | .e,_=>true
 | .n l v r,.n l' v' r'=>(match v,v' with
  | none,_=>true
  | some x,some y=>eB x y
  | _,_=>false)&&(subT l l'&&subT r r')
 | _,_=>false
theorem subT_get:∀ {t t':Tr Ent},subT t t'=true -> ∀ {i:Nat} {e:Ent},t.get i=some e->t'.get i=some e
 | .e,_,_,i,e,he=>by rw[Tr.get_e]at he;cases he
 | .n l v r,.e,h,_,_,_=>by simp[subT]at h
 | .n l v r,.n l' v' r',h,i,e,he=>by
  simp only[subT,Bool.and_eq_true]at h;obtain⟨h1,h2,h3⟩:=h;cases i with
  | zero =>
   rw[Tr.get]at he ⊢;subst he;cases v' with
   | none=>simp at h1
   | some y=>rw[eB_eq h1]
  | succ i =>
   rw[Tr.get]at he ⊢;split at he
   ·exact subT_get h2 he
   ·exact subT_get h3 he
theorem Gd.sub {E:En}{w0 w:World}{h H:Hp}(g:Gd E w0 h w)(hn:h.n=H.n)(hz:h.zn=H.zn)(hf:H.fz = [])(hs:subT H.t h.t=true):Gd E w0 H w :=
 have get:∀ {i e},H.get i=some e->h.get i=some e:=fun hi=>subT_get hs hi
 ⟨g.bel,⟨fun hi=>hn ▸ g.wf.lt (get hi),fun hi=>hn ▸ hz ▸ g.wf.wf (get hi),fun i hi=>by rw[hf]at hi;cases hi⟩,fun hi=>g.ent (get hi),fun hi hj=>g.inj (get hi) (get hj)⟩
def bT:Nat->Tr V
 | 0=>.e
 | k+1=>((bT k).put (2*k) (.p k 0)).put (2*k+1) (.q k 0 1 0 none)
def bOk (t:Tr V):Nat->Bool
 | 0=>true
 | k+1=>(match t.get (2*k),t.get (2*k+1) with
  | some (.p a 0),some (.q b 0 1 0 none)=>Nat.beq a k&&Nat.beq b k
  | _,_=>false)&&bOk t k
theorem bOk_get {t:Tr V}:∀ {n:Nat},bOk t n=true -> ∀k,k<n->t.get (2*k)=some (.p k 0)/\t.get (2*k+1)=some (.q k 0 1 0 none)
 | 0,_,_,h=>absurd h (Nat.not_lt_zero _)
 | n+1,h,k,hk=>by
  simp only[bOk,Bool.and_eq_true]at h;by_cases q:k=n
  ·subst q;obtain⟨h1,_⟩:=h;split at h1
   ·rename_i e1 e2;simp only[Bool.and_eq_true,Nat.beq_eq]at h1;rw[e1,e2,h1.1,h1.2];exact⟨rfl,rfl⟩
   ·cases h1
  ·exact bOk_get h.2 k (by omega)
theorem bT_wf:∀(n i:Nat) (v:V),(bT n).get i=some v->i<2*n /\ ∃k,k<n/\(v = .p k 0\/v = .q k 0 1 0 none)
 | 0,i,v,h=>by rw[bT,Tr.get_e]at h;cases h
 | n+1,i,v,h=>by
  rw[bT]at h;by_cases q:i=2*n+1
  ·subst q;rw[Tr.get_put]at h;cases h;exact⟨by omega,n,by omega,.inr rfl⟩
  ·rw[Tr.get_put_ne _ _ q]at h;by_cases q:i=2*n
   ·subst q;rw[Tr.get_put]at h;cases h;exact⟨by omega,n,by omega,.inl rfl⟩
   ·rw[Tr.get_put_ne _ _ q]at h;obtain⟨h1,k,h2,h3⟩:=bT_wf n i v h;exact⟨by omega,k,by omega,h3⟩
theorem bT_get:∀(n k:Nat),k<n->(bT n).get (2*k)=some (.p k 0)/\(bT n).get (2*k+1)=some (.q k 0 1 0 none)
 | 0,_,h=>absurd h (Nat.not_lt_zero _)
 | n+1,k,h=>by
  rw[bT];by_cases q:k=n
  ·subst q;exact⟨by rw[Tr.get_put_ne _ _ (by omega),Tr.get_put],by rw[Tr.get_put]⟩
  ·obtain⟨h1,h2⟩:=bT_get n k (by omega);exact⟨by rw[Tr.get_put_ne _ _ (by omega),Tr.get_put_ne _ _ (by omega),h1],by rw[Tr.get_put_ne _ _ (by omega),Tr.get_put_ne _ _ (by omega),h2]⟩
def bA (n:Nat):Ac:=⟨bT n,2*n+1,[]⟩
theorem bA_wf (h:Hp):(bA h.n).Wf h:=fun i v hv=>by
 obtain⟨h1,k,h2,h3⟩:=bT_wf h.n i v hv;refine⟨show i<2*h.n+1 by omega,?_⟩;rcases h3 with rfl|rfl<;>simp only[V.wf]
 ·exact h2
 ·exact⟨h2,Nat.one_pos⟩
structure Cut where
 f:FuncId
 al:List V
 H:Hp
 r:V
 H':Hp
def ckC (n:Nat)(r:V)(H':Hp)(e:Ex)(a:Ac)(h:Hp):Bool:=match e with
 | .n=>(match a.tm.get (2*n) with
  | some v=>vB v r
  | none=>false)&&(Nat.beq a.nt (2*n+1)&&(bOk a.tm n&&(Nat.beq h.n H'.n&&(Nat.beq h.zn H'.zn&&subT H'.t h.t))))
 | _=>false
section
variable (P:Program) (tt:TypeId->Option TJ) (ft:FuncId->Option FI) (hk:FuncId->List V->Hp->Option (V × Hp))
def cutB (c:Cut)(n:Nat):Bool:=c.H.fz.isEmpty&&(c.H'.fz.isEmpty&&(Nat.beq c.H.zn 0&&(Nat.beq c.H'.zn 0&&(Nat.ble c.H.n c.H'.n&&(match ft c.f with
 | some i=>match enterF i c.al (some (2*c.H.n)) (.ops [] []) (bA c.H.n) c.H [] with
  | .go x a h k=>run P tt ft hk (ckC c.H.n c.r c.H') n x a h k
  | _=>false
 | none=>false)))))
def CutOk (c:Cut):Prop:=∀(w0:World) (E:En) (w:World),Gd E w0 c.H w->V.wfL c.H.n c.H.zn c.al->(Calls P c.f (V.denL E c.al).toArray w fun e w'=>∃E',e = .returned (c.r.den E')/\Stp w0 E c.H E' c.H' w'/\c.r.wf c.H'.n c.H'.zn) /\
 ∃ fn, P.funcs[c.f]? = some fn ∧ fn.body.isSome = true ∧ (fn.name == "runtime.NumGoroutine") = false
def hkCut:List Cut->FuncId->List V->Hp->Option (V × Hp)
 | [],_,_,_=>none
 | c::cs,f,al,h=>match Nat.beq f c.f&&(Nat.beq h.n c.H.n&&(Nat.beq h.zn c.H.zn&&(h.fz.isEmpty&&(c.H.fz.isEmpty&&(vsB al c.al&&subT c.H.t h.t))))) with
  | true=>some (c.r,c.H')
  | false=>hkCut cs f al h
end
section
variable {P:Program} {tt:TypeId->Option TJ} {ft:FuncId->Option FI} {hk:FuncId->List V->Hp->Option (V × Hp)}
theorem cut_ok {c:Cut}{n:Nat}(B:∀w0 Q,PanOk Q->Env P tt ft hk w0 Q)(hc:cutB P tt ft hk c n=true):CutOk P c:=by
 intro w0 E w g hw;unfold cutB at hc;simp only[Bool.and_eq_true,List.isEmpty_iff,Nat.beq_eq,Nat.ble_eq]at hc;obtain⟨z1,z2,z3,z4,z5,hc⟩:=hc;split at hc
 ·rename_i i hi;split at hc
  ·rename_i x a h k he
   let Q0:Exit->Act->World->Prop:=fun e act w'=>e = .normal /\ ∃E' a',act=Ac.act E' a'/\a'.tm.get (2*c.H.n)=some c.r/\a'.nt=2*c.H.n+1/\bOk a'.tm c.H.n=true/\Gd E' w0 c.H' w'/\c.r.wf c.H'.n c.H'.zn
   have hp:PanOk Q0:=fun _ _ _ _ h=>by cases h.1
   have ok:Ok P w0 Q0 x a h k:=run_ok (B w0 Q0 hp) (fun e a h hq E w g ha=>by
    cases e<;>simp only[ckC]at hq<;>first|(cases hq;done)|skip
    simp only[Bool.and_eq_true,Nat.beq_eq]at hq;obtain⟨q1,q2,q3,q4,q5,q6⟩:=hq;split at q1
    ·rename_i v hv;obtain rfl:=vB_eq q1;refine⟨rfl,E,a,rfl,hv,q2,q3,g.sub q4 q5 z2 q6,?_⟩;have:=(ha _ _ hv).2;rw[q4,q5]at this;exact this
    ·cases q1) n x a h k hc
   have key:=call_ok (B w0 Q0 hp) g (bA_wf c.H) hi hw he ok (K':=Q0) (S:=fun _=>True) (L:=#[]) rfl (fun _ h=>h) trivial trivial (fun _ _ _=>trivial) (fun _ _ _=>trivial);obtain⟨q1,q2,q3⟩:=(B w0 Q0 hp).fnk c.f i hi;refine⟨key.mono ?_,i.fn,q1,?_,q2⟩
   ·rintro e w' ⟨v,rfl,hcont⟩;have hq:Q0 .normal (((bA c.H.n).act E).put (some (2*c.H.n)) v) w':=hcont;obtain⟨_,E',a',e1,e2,e3,e4,g',hr⟩:=hq;have tm:∀j:Nat,(((bA c.H.n).act E).put (some (2*c.H.n)) v).tmps[j]? = (a'.act E').tmps[j]?:=fun j=>by rw[e1]
    have size:((bA c.H.n).act E).tmps.size=2*c.H.n+1:=by simp[Ac.act,bA]
    have lhs:∀j:Nat,j≠2*c.H.n->j<2*c.H.n+1->some (den0 E ((bT c.H.n).get j))=some (den0 E' (a'.tm.get j)):=fun j hj hl=>by
     have:=tm j;rw[act_get,if_pos (by rw[e3];exact hl)]at this;rw[<- this];unfold Act.put;simp only;rw[Array.getElem?_setIfInBounds,if_neg (by omega),act_get,if_pos (show j<(bA c.H.n).nt from hl)];rfl
    have hv:v=c.r.den E':=by
     have:=tm (2*c.H.n);rw[act_get,if_pos (by omega),e2]at this;unfold Act.put at this;simp only at this;rw[Array.getElem?_setIfInBounds,if_pos rfl,if_pos (by rw[size];omega)]at this
     simpa [den0] using this
    have hB:∀k,k<c.H.n->E'.B k=E.B k:=fun k hk=>by
     have:=lhs (2*k) (by omega) (by omega);rw[(bT_get _ k hk).1,(bOk_get e4 k hk).1]at this;simp only[den0,V.den,En.at,Option.some.injEq,Value.pointer.injEq,Addr.mk.injEq,Nat.add_zero]at this;exact(Prod.ext this.1 this.2.1).symm
    have hC:∀k,k<c.H.n->E'.C k=E.C k:=fun k hk=>by
     have:=lhs (2*k+1) (by omega) (by omega);rw[(bT_get _ k hk).2,(bOk_get e4 k hk).2]at this;simp only[den0,V.den,Option.some.injEq,Value.slice.injEq,Nat.sub_zero,Nat.div_one]at this;exact this.2.2.symm
    exact⟨E',by rw[hv],⟨g',⟨hB,hC,fun j hj=>by rw[z3]at hj;exact absurd hj (Nat.not_lt_zero _)⟩,z5,by rw[z3,z4];exact Nat.le_refl _,by rw[z1,z2],fun i hi=>by rw[z1]at hi;cases hi⟩,hr⟩
   ·unfold enterF at he;split at he
    ·rename_i hb _;rw[hb];rfl
    ·cases he
  ·cases hc
 ·cases hc
theorem hkCut_ok {w0 w:World}{E:En}:∀ {cs:List Cut},(∀c ∈ cs,CutOk P c) -> ∀ {f:FuncId} {al:List V} {h h':Hp} {r:V},hkCut cs f al h=some (r,h')->Gd E w0 h w->V.wfL h.n h.zn al ->
  (Calls P f (V.denL E al).toArray w fun e w' => ∃ E', e = .returned (r.den E') ∧ Stp w0 E h E' h' w' ∧ r.wf h'.n h'.zn) ∧ ∃ fn, P.funcs[f]? = some fn ∧ fn.body.isSome = true ∧ (fn.name == "runtime.NumGoroutine") = false
 | [],_,_,_,_,_,_,hh,_,_=>by cases hh
 | c::cs,hcs,f,al,h,h',r,hh,g,hw=>by
  unfold hkCut at hh;split at hh
  ·rename_i hb;cases hh;simp only[Bool.and_eq_true,List.isEmpty_iff,Nat.beq_eq]at hb;obtain⟨rfl,b2,b3,b4,b5,b6,b7⟩:=hb;obtain rfl:=vsB_eq b6;obtain⟨q1,q2⟩:=hcs c List.mem_cons_self w0 E w (g.sub b2 b3 b5 b7) (by rw[<- b2,<- b3];exact hw);refine⟨q1.mono ?_,q2⟩;rintro e w' ⟨E',rfl,st,hr⟩;exact⟨E',rfl,⟨st.gd,by rw[b2,b3];exact st.ext,by rw[b2];exact st.n,by rw[b3];exact st.zn,by rw[b4,<- b5];exact st.fz,fun i hi=>by rw[b4]at hi;cases hi⟩,hr⟩
  ·exact hkCut_ok (fun c hc=>hcs c (List.mem_cons_of_mem _ hc)) hh g hw
end
end Go.Proofs.Rn
