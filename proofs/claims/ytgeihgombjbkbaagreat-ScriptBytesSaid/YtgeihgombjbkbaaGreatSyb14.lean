/- For scbytes_law_holds. -/
import Derived.Laws.IdiomCopy
import Derived.Test.YtgeihgombjbkbaaGreatSyb13
import Derived.Deep.MidRow
namespace Go.Proofs.Own
open Go Go.RowKit

def setL:List Value->Nat->List Value->List Value
 | c,_,[]=>c
 | c,o,v::r=>setL (c.set o v) (o+1) r
theorem Box.setL {b:Nat}:∀(vs c:List Value) (o:Nat) (w:World),Box w (b,c)->Box (w.setCells b o vs) (b,Own.setL c o vs)
 | [],_,_,_,h=>h
 | v::r,c,o,w,h=>by
  rw[World.setCells,Own.setL];exact Box.setL r _ (o+1) _ (h.set o v)
theorem Kept.setCells (b:Nat):∀(vs:List Value) (o:Nat) (w:World),Kept w (w.setCells b o vs) (fun i=>i=b)
 | [],_,w=>Kept.refl w _
 | v::r,o,w=>by
  rw[World.setCells];exact(Kept.setCell w ⟨b,o,none⟩ v).trans (Kept.setCells b r (o+1) _)

inductive IE where
 | l (n:Int)
 | x (n:Unit->Int)
 | add (k:IntKind) (a b:IE)
 | sub (k:IntKind) (a b:IE)
 | cv (k:IntKind) (a:IE)
def cmpB:BinOp->Int->Int->Bool
 | .eql,x,y=>x==y
 | .neq,x,y=>x != y
 | .lss,x,y=>decide (x<y)
 | .leq,x,y=>decide (x<=y)
 | .gtr,x,y=>decide (x > y)
 | .geq,x,y=>decide (x ≥ y)
 | _,_,_=>false
def isCmp:BinOp->Bool
 | .eql | .neq | .lss | .leq | .gtr | .geq=>true
 | _=>false
def IE.den:IE->Int
 | .l n=>n
 | .x n=>n ()
 | .add k a b=>k.wrap (a.den+b.den)
 | .sub k a b=>k.wrap (a.den-b.den)
 | .cv k a=>k.wrap a.den
inductive BE where
 | l (b:Bool)
 | x (b:Unit->Bool)
 | cmp (op:BinOp) (a b:IE)
 | not (a:BE)
 | ite (c a b:BE)
 | eq (a b:BE)
def BE.den:BE->Bool
 | .l b=>b
 | .x b=>b ()
 | .cmp op a b=>cmpB op a.den b.den
 | .not a=>!a.den
 | .ite c a b=>if c.den then a.den else b.den
 | .eq a b=>a.den==b.den
def IE.add' (k:IntKind):IE->IE->IE
 | .l a,.l b=>.l (k.wrap (a+b))
 | a,b=>.add k a b
def IE.aL4 (k:IntKind):IE->IE->IE
 | .l a,.l b=>.l (k.wrap (a-b))
 | a,b=>.sub k a b
def IE.cv' (k:IntKind):IE->IE
 | .l a=>.l (k.wrap a)
 | a=>.cv k a
def BE.aJq (op:BinOp):IE->IE->BE
 | .l a,.l b=>.l (cmpB op a b)
 | a,b=>.cmp op a b
def BE.not':BE->BE
 | .l a=>.l !a
 | a=>.not a
def BE.ite':BE->BE->BE->BE
 | .l true,a,_=>a
 | .l false,_,b=>b
 | c,a,b=>.ite c a b
def BE.eq':BE->BE->BE
 | .l a,.l b=>.l (a==b)
 | a,b=>.eq a b
theorem IE.aAj (k:IntKind)(a b:IE):(IE.add' k a b).den=k.wrap (a.den+b.den):=by unfold IE.add';split<;>rfl
theorem IE.aI2 (k:IntKind)(a b:IE):(IE.aL4 k a b).den=k.wrap (a.den-b.den):=by unfold IE.aL4;split<;>rfl
theorem IE.aJr (k:IntKind)(a:IE):(IE.cv' k a).den=k.wrap a.den:=by unfold IE.cv';split<;>rfl
theorem BE.tH (op:BinOp)(a b:IE):(BE.aJq op a b).den=cmpB op a.den b.den:=by unfold BE.aJq;split<;>rfl
theorem BE.oK (a:BE):a.not'.den = !a.den:=by unfold BE.not';split<;>rfl
theorem BE.tS (c a b:BE):(BE.ite' c a b).den=if c.den then a.den else b.den:=by unfold BE.ite';split<;>simp[BE.den]
theorem BE.wW (a b:BE):(BE.eq' a b).den=(a.den==b.den):=by unfold BE.eq';split<;>rfl

inductive AV where
 | i (k:IntKind) (e:IE)
 | b (e:BE)
 | v (x:Value)
 | sl (a:Unit->Option Addr) (n c:Unit->Nat)
 | po (a:Unit->Option Addr)
 | pa (a:Unit->Addr)
 | st (s:Unit->ByteArray)
 | mp (r:Unit->Option Nat)
 | p (i o:Nat)
 | g (l:List AV)
 | t (l:List AV)
 | f (fn:Go.Fn) (first captured:List AV)
mutual
def AV.den (B:Nat->Nat):AV->Value
 | .i k e=>.int k e.den
 | .b e=>.bool e.den
 | .v x=>x
 | .sl a n c=>.slice (a ()) (n ()) (c ())
 | .po a=>.pointer (a ())
 | .pa a=>.pointer (some (a ()))
 | .st s=>.string (s ())
 | .mp r=>.map (r ())
 | .p j o=>.pointer (some ⟨B j,o,none⟩)
 | .g l=>.agg (AV.denL B l).toArray
 | .t l=>.tuple (AV.denL B l).toArray
 | .f fn a c=>.func fn (AV.denL B a).toArray (AV.denL B c).toArray
def AV.denL (B:Nat->Nat):List AV->List Value
 | []=>[]
 | a::l=>a.den B::AV.denL B l
end
mutual
def AV.wf (n:Nat):AV->Bool
 | .i _ _ | .b _ | .v _ | .sl _ _ _ | .po _ | .pa _ | .st _ | .mp _=>true
 | .p j _=>Nat.blt j n
 | .g l | .t l=>AV.wfL n l
 | .f _ a c=>AV.wfL n a&&AV.wfL n c
def AV.wfL (n:Nat):List AV->Bool
 | []=>true
 | a::l=>a.wf n&&AV.wfL n l
end
theorem AV.denL_eq (B:Nat->Nat):∀l,AV.denL B l=l.map (AV.den B)
 | []=>by rw[AV.denL];rfl
 | a::l=>by rw[AV.denL,AV.denL_eq B l];rfl
mutual
theorem AV.yC {B C:Nat->Nat}{n:Nat}(h:∀i,i<n->B i=C i):∀a:AV,a.wf n=true->a.den B=a.den C
 | .i _ _,_ | .b _,_ | .v _,_ | .sl _ _ _,_ | .po _,_ | .pa _,_ | .st _,_ | .mp _,_=>by simp only[AV.den]
 | .p j o,hw=>by
  simp only[AV.wf]at hw;simp only[AV.den,h j (by simpa using hw)]
 | .g l,hw=>by simp only[AV.wf]at hw;simp only[AV.den,AV.cU h l hw]
 | .t l,hw=>by simp only[AV.wf]at hw;simp only[AV.den,AV.cU h l hw]
 | .f _ a c,hw=>by
  simp only[AV.wf,Bool.and_eq_true]at hw;simp only[AV.den,AV.cU h a hw.1,AV.cU h c hw.2]
theorem AV.cU {B C:Nat->Nat}{n:Nat}(h:∀i,i<n->B i=C i):∀l:List AV,AV.wfL n l=true->AV.denL B l=AV.denL C l
 | [],_=>by simp only[AV.denL]
 | a::l,hw=>by
  simp only[AV.wfL,Bool.and_eq_true]at hw;simp only[AV.denL,AV.yC h a hw.1,AV.cU h l hw.2]
end
structure St where
 tm:List AV
 bx:List (List AV)
def getT:List AV->Nat->AV
 | [],_=>.v undef
 | a::_,0=>a
 | _::l,n+1=>getT l n
def setN {α:Type}:List α->Nat -> α->List α
 | [],_,_=>[]
 | _::l,0,x=>x::l
 | a::l,n+1,x=>a::setN l n x
def getN {α:Type}:List α->Nat->Option α
 | [],_=>none
 | a::_,0=>some a
 | _::l,n+1=>getN l n
def cutN {α:Type}:List α->Nat->Nat->Option (List α)
 | _,0,0=>some []
 | [],0,_+1=>none
 | a::l,0,n+1=>match cutN l 0 n with|some r=>some (a::r)|none=>none
 | [],_+1,_=>none
 | _::l,o+1,n=>cutN l o n
def putN {α:Type}:List α->Nat->List α->List α
 | l,0,[]=>l
 | [],_,_=>[]
 | _::l,0,x::r=>x::putN l 0 r
 | a::l,o+1,r=>a::putN l o r
theorem sH {α:Type}:∀(l:List α) (n:Nat) (x:α),setN l n x=l.set n x
 | [],_,_=>rfl
 | _::_,0,_=>rfl
 | a::l,n+1,x=>by rw[setN,sH l n x];rfl
theorem cZ {α:Type}:∀(l:List α) (n:Nat),getN l n=l[n]?
 | [],_=>rfl
 | _::_,0=>rfl
 | a::l,n+1=>by rw[getN,cZ l n];rfl
theorem iN {α:Type}:∀(l:List α) (o n:Nat) (r:List α),cutN l o n=some r->r.length=n/\o+n<=l.length /\ ∀j,j<n->r[j]? = l[o+j]?
 | l,0,0,r,h=>by
  simp only[cutN,Option.some.injEq]at h;subst h;exact⟨rfl,Nat.zero_le _,fun j hj=>absurd hj (Nat.not_lt_zero j)⟩
 | [],0,n+1,r,h=>by simp[cutN]at h
 | a::l,0,n+1,r,h=>by
  rw[cutN]at h;split at h
  ·rename_i s hs;cases h;obtain⟨h1,h2,h3⟩:=iN l 0 n s hs;refine⟨by simp[h1],by simp;omega,fun j hj=>?_⟩;cases j with
   | zero=>simp
   | succ j=>have:=h3 j (by omega);simpa using this
  ·cases h
 | [],_+1,n,r,h=>by simp[cutN]at h
 | a::l,o+1,n,r,h=>by
  rw[cutN]at h;obtain⟨h1,h2,h3⟩:=iN l o n r h;refine⟨h1,by simp;omega,fun j hj=>?_⟩;rw[h3 j hj,show o+1+j=o+j+1 by omega];rfl
theorem gP {α:Type}:∀(l:List α) (o:Nat) (r:List α),o+r.length<=l.length->putN l o r=l.take o++r++l.drop (o+r.length)
 | l,0,[],_=>by simp[putN]
 | [],0,_::_,h=>by simp at h
 | _::l,0,x::r,h=>by
  rw[putN,gP l 0 r (by simp at h;omega)];simp
 | [],_+1,r,h=>by simp at h
 | a::l,o+1,r,h=>by
  rw[putN,gP l o r (by simp at h;omega)];simp[show o+1+r.length=o+r.length+1 by omega]

inductive Sh where
 | o|int (k:IntKind)|bool|ptr|sl|str|row
 deriving DecidableEq
structure TI where
 n:Nat
 a:Bool
 z:List Value
 fs:List (Nat × TypeId)
 ps:List (Nat × Nat)
 sh:Sh
 eq:List (Nat × Sh)
def aL2:TypeDesc->Sh->Prop
 | .int k,.int k'=>k=k'
 | .bool,.bool=>True
 | .pointer _,.ptr=>True
 | .slice _,.sl=>True
 | .string,.str=>True
 | _,.o=>True
 | d,.row=>d.isRow=true
 | _,_=>False
def EqF (P:Program):List Field->List (Nat × Sh)->Prop
 | [],[]=>True
 | f :: fs, (o, sh) :: r => f.name ≠ "_" ∧ f.offset = o ∧ (∃ d, P.underlying f.type = some d ∧ aL2 d sh ∧ d.isRow = false) ∧ EqF P fs r
 | _,_=>False
structure TyOk (P:Program)(t:TypeId)(i:TI):Prop where
 size:(P.info? t).map (·.size)=some i.n
 zero:∃v,(P.info? t).bind (·.zero)=some v/\v.cells=i.z.toArray
 und:∃d,P.underlying t=some d/\d.isRow=i.a/\aL2 d i.sh/\(∀fs,d = .struct fs->fs.toList.map (fun f=>(f.offset,f.type))=i.fs)/\(i.fs ≠ [] -> ∃fs,d = .struct fs) /\ ∀fs,d = .struct fs->fs.toList.mapM (fun f=>(P.info? f.type).map fun i=>(f.offset,i.size))=some i.ps
 eqs:i.eq ≠ [] -> ∃fs,P.underlying t=some (.struct fs)/\EqF P fs.toList i.eq/\P.eqGuardType P.depth t=false/\P.stoodInHeld t=false
def TTok (P:Program)(tt:TypeId->Option TI):Prop:=∀t i,tt t=some i->TyOk P t i
def oneV:Value->Bool
 | .agg _ | .tuple _=>false
 | _=>true
def AV.one:AV->Bool
 | .g _ | .t _=>false
 | .v x=>oneV x
 | _=>true
def oneL:List AV->Bool
 | []=>true
 | a::l=>a.one&&oneL l
def constA:Value->AV
 | .int k n=>.i k (.l n)
 | .bool b=>.b (.l b)
 | .string s=>.st fun _=>s
 | x=>.v x
def constL:List Value->List AV
 | []=>[]
 | a::l=>constA a::constL l
theorem oC (B:Nat->Nat)(x:Value):(constA x).den B=x:=by cases x<;>simp[constA,AV.den,IE.den,BE.den]
theorem iX (B:Nat->Nat):∀l,AV.denL B (constL l)=l
 | []=>by rw[constL,AV.denL]
 | a::l=>by rw[constL,AV.denL,oC,iX B l]
theorem AV.one_den (B:Nat->Nat){a:AV}(h:a.one=true):(a.den B).oneCell'=true:=by
 cases a with
 | v x=>cases x<;>simp_all[AV.one,oneV,AV.den,Value.oneCell']
 | g l=>cases h
 | t l=>cases h
 | _=>simp[AV.den,Value.oneCell']
theorem lV (B:Nat->Nat):∀ {l:List AV},oneL l=true -> ∀v ∈ AV.denL B l,v.oneCell'=true
 | [],_,v,hv=>by simp[AV.denL]at hv
 | a::l,h,v,hv=>by
  simp only[oneL,Bool.and_eq_true]at h;rw[AV.denL]at hv;rcases List.mem_cons.1 hv with rfl|hv
  ·exact AV.one_den B h.1
  ·exact lV B h.2 v hv
def AV.cs:AV->Option (List AV)
 | .g l=>if oneL l then some l else none
 | a=>if a.one then some [a] else none
theorem AV.cs_den (B:Nat->Nat){a:AV}{l:List AV}(h:a.cs=some l):(a.den B).cells=(AV.denL B l).toArray /\ ∀v ∈ AV.denL B l,v.oneCell'=true:=by
 unfold AV.cs at h;split at h
 ·split at h
  ·cases h;rename_i l0 hl;exact⟨by simp only[AV.den,Value.cells],lV B hl⟩
  ·cases h
 ·split at h
  ·cases h;rename_i ho;have h1:=AV.one_den B ho;refine⟨?_,fun v hv=>?_⟩
   ·rw[AV.denL,AV.denL];generalize a.den B=x at h1;cases x<;>first|rfl|cases h1
   ·rw[AV.denL,AV.denL]at hv;obtain rfl:=List.mem_singleton.1 hv;exact h1
  ·cases h
def St.ev (s:St):Operand->AV
 | .tmp t=>getT s.tm t
 | .const v=>constA v
 | .global g=>.v (.pointer (some ⟨g,0,none⟩))
 | .func f=>.f (.func f) [] []
def St.act (B:Nat->Nat)(s:St):Act:=⟨(AV.denL B s.tm).toArray,[]⟩
theorem tO (B:Nat->Nat):∀(l:List AV) (n:Nat),(AV.denL B l).toArray.getD n undef=(getT l n).den B
 | [],n=>by simp[AV.denL,getT,AV.den]
 | a::l,0=>by simp[AV.denL,getT]
 | a::l,n+1=>by
  have:=tO B l n;simp only[AV.denL,getT];rw[<- this];simp
theorem St.aB (B:Nat->Nat)(s:St)(x:Operand):(s.act B).eval x=(s.ev x).den B:=by
 cases x with
 | tmp t=>exact tO B s.tm t
 | const v=>simp only[St.ev,oC];rfl
 | global g=>simp only[St.ev,AV.den];rfl
 | func f=>simp only[St.ev,AV.den,AV.denL];rfl
def St.put (s:St)(d:Option Tmp)(r:AV):St:=match d with
 | some k=>⟨setN s.tm k r,s.bx⟩
 | none=>s
theorem uX (B:Nat->Nat):∀(l:List AV) (n:Nat) (r:AV),AV.denL B (setN l n r)=(AV.denL B l).set n (r.den B)
 | [],n,r=>by simp[setN,AV.denL]
 | a::l,0,r=>by simp[setN,AV.denL]
 | a::l,n+1,r=>by simp[setN,AV.denL,uX B l n r]
theorem St.bR (B:Nat->Nat)(s:St)(d:Option Tmp)(r:AV):(s.put d r).act B=(s.act B).put d (r.den B):=by
 cases d with
 | none=>rfl
 | some k=>simp only[St.put,St.act,Act.put,uX,List.setIfInBounds_toArray]
inductive E1 where
 | val (r:AV) (s:St)
 | no
def AV.n8:AV->Bool
 | .i .u8 _=>false
 | .v (.int .u8 _)=>false
 | _=>true
def n8L:List AV->Bool
 | []=>true
 | a::l=>a.n8&&n8L l
structure KB where
 b:Bool
 ro:Nat
def St.new (k8:KB)(s:St)(c:List AV):E1 :=
 if (!k8.b || n8L c)&&AV.wfL s.bx.length s.tm&&AV.wfL s.bx.length c&&s.bx.all (AV.wfL s.bx.length) then .val (.p s.bx.length 0) ⟨s.tm,s.bx ++ [c]⟩ else .no
def fillA (ps:List (Nat × Nat))(s:St):List AV->List (Nat × Operand)->Option (List AV)
 | c,[]=>some c
 | c,(j,x)::r=>match getN ps j with
  | some (o,n)=>match (s.ev x).cs with
   | some l=>if l.length==n&&Nat.ble (o+l.length) c.length then fillA ps s (putN c o l) r else none
   | none=>none
  | none=>none
def aMp (x y:BE):BE:=.ite' x y (.l false)
def eq1:Sh->AV->AV->Option BE
 | .int _,.i k a,.i k' b=>if k=k' then some (.aJq .eql a b) else none
 | .bool,.b a,.b b=>some (.eq' a b)
 | .str,.st a,.st b=>some (.x fun _=>(a ()).toList==(b ()).toList)
 | _,_,_=>none
def eqA:List (Nat × Sh)->List AV->List AV->Option BE
 | [],_,_=>some (.l true)
 | (o,sh)::r,l,m=>match getN l o,getN m o with
  | some x,some y=>match eq1 sh x y,eqA r l m with
   | some a,some b=>some (aMp a b)
   | _,_=>none
  | _,_=>none
def evBin (sh:Sh)(eqs:List (Nat × Sh))(op:BinOp):AV->AV->Option AV
 | .g l,.g m=>if eqs.isEmpty then none else match eqA eqs l m with
  | some e=>match op with
   | .eql=>some (.b e)
   | .neq=>some (.b e.not')
   | _=>none
  | none=>none
 | .i k a,.i k' b=>if k=k' then (match op with
   | .add=>some (.i k (.add' k a b))
   | .sub=>some (.i k (.aL4 k a b))
   | op=>if isCmp op then some (.b (.aJq op a b)) else none) else none
 | .b a,.b b=>match sh,op with
  | .bool,.eql=>some (.b (.eq' a b))
  | .bool,.neq=>some (.b (.not' (.eq' a b)))
  | _,_=>none
 | .p _ _,.v (.pointer none) | .pa _,.v (.pointer none)=>match sh,op with
  | .ptr,.eql=>some (.b (.l false))
  | .ptr,.neq=>some (.b (.l true))
  | _,_=>none
 | .v (.pointer none),.v (.pointer none)=>match sh,op with
  | .ptr,.eql=>some (.b (.l true))
  | .ptr,.neq=>some (.b (.l false))
  | _,_=>none
 | .po a,.v (.pointer none)=>match sh,op with
  | .ptr,.eql=>some (.b (.x fun _=>(a ()).isNone))
  | .ptr,.neq=>some (.b (.x fun _=>!(a ()).isNone))
  | _,_=>none
 | .v (.slice none _ _),.v (.slice none _ _)=>match sh,op with
  | .sl,.eql=>some (.b (.l true))
  | .sl,.neq=>some (.b (.l false))
  | _,_=>none
 | .sl a _ _,.v (.slice none _ _)=>match sh,op with
  | .sl,.eql=>some (.b (.x fun _=>(a ()).isNone))
  | .sl,.neq=>some (.b (.x fun _=>!(a ()).isNone))
  | _,_=>none
 | .st a,.st b=>match op with
  | .eql=>some (.b (.x fun _=>(a ()).toList==(b ()).toList))
  | .neq=>some (.b (.x fun _=>!((a ()).toList==(b ()).toList)))
  | _=>none
 | _,_=>none
def evOp (tt:TypeId->Option TI)(k8:KB)(s:St):Op->E1
 | .move x | .assign x=>.val (s.ev x) s
 | .pick c a b=>match s.ev c with
  | .b (.l true)=>.val (s.ev a) s
  | .b (.l false)=>.val (s.ev b) s
  | .b e=>match s.ev a,s.ev b with
   | .b x,.b y=>.val (.b (.ite' e x y)) s
   | _,_=>.no
  | _=>.no
 | .alloc t=>match tt t with
  | some i=>s.new k8 (constL i.z)
  | none=>.no
 | .box _ x=>match (s.ev x).cs with
  | some l=>s.new k8 l
  | none=>.no
 | .build t ps=>match tt t with
  | some i=>match i.sh with
   | .row=>match fillA i.ps s (constL i.z) ps.toList with
    | some l=>if i.fs.isEmpty then .no else .val (.g l) s
    | none=>.no
   | _=>.no
  | none=>.no
 | .load t x=>match s.ev x with
  | .p b o=>match tt t,getN s.bx b with
   | some i,some c=>if i.a then (match cutN c o i.n with
     | some l=>.val (.g l) s
     | none=>.no) else (match getN c o with
     | some r=>.val r s
     | none=>.no)
   | _,_=>.no
  | _=>.no
 | .store t x y=>match s.ev x with
  | .p b o=>match tt t,getN s.bx b,(s.ev y).cs with
   | some i,some c,some l=>if Nat.ble k8.ro b&&(!k8.b || n8L l)&&l.length==i.n&&Nat.ble (o+l.length) c.length then .val (.v undef) ⟨s.tm,setN s.bx b (putN c o l)⟩ else .no
   | _,_,_=>.no
  | _=>.no
 | .fieldAddr t x j=>match s.ev x with
  | .p b o=>match tt t with
   | some i=>match getN i.fs j with
    | some (k,ft)=>match tt ft with
     | some fi=>if fi.n==0 then .no else .val (.p b (o+k)) s
     | none=>.no
    | none=>.no
   | none=>.no
  | _=>.no
 | .field t x j=>match s.ev x with
  | .g l=>match tt t with
   | some i=>match getN i.fs j with
    | some (k,ft)=>match tt ft with
     | some fi=>if fi.a then (match cutN l k fi.n with
       | some r=>.val (.g r) s
       | none=>.no) else (match getN l k with
       | some r=>.val r s
       | none=>.no)
     | none=>.no
    | none=>.no
   | none=>.no
  | _=>.no
 | .extract x j=>match s.ev x with
  | .t l=>match getN l j with
   | some r=>.val r s
   | none=>.no
  | _=>.no
 | .nilCheck x=>match s.ev x with
  | .p b o=>.val (.p b o) s
  | .pa a=>.val (.pa a) s
  | .f (.func f) a c=>.val (.f (.func f) a c) s
  | _=>.no
 | .binOp op t x y _=>match tt t with
  | some i=>match evBin i.sh i.eq op (s.ev x) (s.ev y) with
   | some r=>.val r s
   | none=>.no
  | none=>.no
 | .unOp .not _ x=>match s.ev x with
  | .b e=>.val (.b e.not') s
  | _=>.no
 | .convert t u x=>match s.ev x with
  | .i _ e=>match tt t,tt u with
   | some i,some j=>match i.sh,j.sh with
    | .int _,.int k=>.val (.i k (.cv' k e)) s
    | _,_=>.no
   | _,_=>.no
  | _=>.no
 | .makeFunc fn a c=>.val (.f fn (a.toList.map s.ev) (c.toList.map s.ev)) s
 | .call c=>match c.callee,c.args.toList,c.argTypes.toList with
  | .builtin .len,[x],[t]=>match s.ev x with
   | .sl _ n _=>match tt t with
    | some i=>match i.sh with
     | .sl=>.val (.i .i64 (.x fun _=>(n ():Int))) s
     | _=>.no
    | none=>.no
   | .v (.slice none n _)=>match tt t with
    | some i=>match i.sh with
     | .sl=>.val (.i .i64 (.l n)) s
     | _=>.no
    | none=>.no
   | .st a=>match tt t with
    | some i=>match i.sh with
     | .str=>.val (.i .i64 (.x fun _=>((a ()).size:Int))) s
     | _=>.no
    | none=>.no
   | _=>.no
  | _,_,_=>.no
 | _=>.no
end Go.Proofs.Own
