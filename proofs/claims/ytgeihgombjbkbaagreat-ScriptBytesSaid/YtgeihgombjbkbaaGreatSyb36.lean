/- For scbytes_law_holds. -/
import Derived.Test.YtgeihgombjbkbaaGreatSyb35
import Derived.Test.YtgeihgombjbkbaaGreatSyb33
set_option maxHeartbeats 16000000
set_option maxRecDepth 100000
namespace Go.Proofs.Own
open Go Go.RowKit
theorem Fr.swap {S:Nat->Prop}{w0 w:World}{a b p q:Nat × List Value}{R:World->Prop}(F:Fr S w0 w [a,b,p,q] R):Fr S w0 w [a,b,q,p] R:=by
 have hm:∀x,x ∈ [a,b,q,p] ↔ x ∈ [a,b,p,q]:=fun x=>by simp only[List.mem_cons,List.not_mem_nil,or_false];constructor<;>(rintro(h|h|h|h)<;>simp[h])
 have key:∀(i:Nat) x,[a,b,q,p][i]? = some x -> [a,b,p,q][(if i=2 then 3 else if i=3 then 2 else i)]? = some x:=fun i x h=>by
  match i,h with
  | 0,h=>exact h
  | 1,h=>exact h
  | 2,h=>exact h
  | 3,h=>exact h
  | n+4,h=>simp at h
 refine⟨fun i x h=>F.box _ x (key i x h),fun i j x y hx hy e=>?_,fun x hx=>F.rng x ((hm x).1 hx),F.bel,F.saf.sub fun k _ h=>h.imp id fun h=>?_,F.lim⟩
 ·have:=F.inj _ _ x y (key i x hx) (key j y hy) e;split at this<;>split at this<;>(try split at this)<;>(try split at this)<;>omega
 ·obtain⟨x,hx,rfl⟩:=List.mem_map.1 h;exact List.mem_map.2 ⟨x,(hm x).1 hx,rfl⟩
def swB (B:Nat->Nat):Nat->Nat
 | 2=>B 3
 | 3=>B 2
 | n=>B n
def FrH (h:Bx)(w0:World)(R:World->Prop)(w:World)(K:Bx):Prop:=Fr (fun _=>False) w0 w K R/\K.take h.length=h
theorem FrH.frm (h:Bx)(w0:World)(R:World->Prop)(n:Nat)(hn:h.length=n):Frm (FrH h w0 R) ⟨false,n⟩:=by
 subst hn;refine⟨fun F i p e=>F.1.box i p e,fun {w K} F {i b o c vs} hi hl _ hr=>⟨F.1.aKm hi hl,?_⟩,fun {w K} F {c t} _=>⟨F.1.snoc rfl rfl,?_⟩,fun F=>⟨F.1.drew rfl,F.2⟩⟩
 ·have hr:h.length<=i:=hr;rw[List.take_set,List.set_eq_of_length_le (by rw[List.length_take];omega)];exact F.2
 ·have h1:=congrArg List.length F.2;rw[List.length_take]at h1;rw[List.take_append_of_le_length (by omega)];exact F.2
theorem FrH.swap {h:Bx}{w0 w:World}{a b p q:Nat × List Value}{R:World->Prop}(hh:h.length=2)(F:FrH h w0 R w [a,b,p,q]):FrH h w0 R w [a,b,q,p]:=⟨F.1.swap,by
 have:=F.2;rw[hh]at this ⊢;exact this⟩
theorem FrH.heads {B:Nat->Nat}{bx:List (List AV)}{w0 w:World}{R:World->Prop}{K:Bx}(F:FrH (mkB B 0 bx) w0 R w K):∀(i:Nat) c,bx[i]? = some c->Box w (B i,AV.denL B c):=fun i c hi=>by
 refine F.1.box i _ ?_;have h1:(mkB B 0 bx)[i]? = some (B i,AV.denL B c):=by rw[fJ,hi,Nat.zero_add];rfl
 rw[<- F.2]at h1;rw[List.getElem?_take]at h1;split at h1
 ·exact h1
 ·cases h1
theorem Fr.aOP {w0 w:World}{K:Bx}{R:World->Prop}(F:Fr (fun _=>False) w0 w K R)(n:Nat)(hn:K.length=n):Fe n (fun u=>Below w0.heap.size w0 u/\R u) w K:=by
 refine⟨w,K,hn,[],(List.append_nil _).symm,Fr.zero w nofun fun v kv=>⟨fun p hp=>?_,?_,?_⟩⟩
 ·obtain⟨i,hi⟩:=List.getElem?_of_mem hp;exact(F.box i p hi).kept kv (fun h=>h)
 ·exact F.bel.trans ((kv.below (Nat.le_refl _) nofun).mono F.bel.size)
 ·exact(F.saf.below (kv.below (Nat.le_refl _) nofun)).now
section
variable {P:Program} {Q:Exit->Act->World->Prop} {k8:KB} {F:World->Bx->Prop} {s:St}
theorem aZ {ι:Type}{ss:ι->St}{FF:ι->World->Bx->Prop}{Ls:ι->Array Bool}{μ:ι->Nat}{L:Array Bool}{n:Nat}{J:Act->World->Prop}(hJ:J=WJ ss FF Ls μ L n)(i':(Nat->Value) -> ι)(lv:List (Nat × AV))(m:Nat)(g:(Nat->Nat)->Nat->Nat)(hs:∀B x,(ss (i' x)).act (g B)=St.act B ⟨mkT x lv 0 m,[]⟩)(h0:∀B,agL B s.tm lv)(hF:∀B w,F w (mkB B 0 s.bx) -> ∀x,FF (i' x) w (mkB (g B) 0 (ss (i' x)).bx))(hL:∀x,Ls (i' x)=L:=by intro;rfl)(hμ:∀x,μ (i' x)=n:=by intro;rfl)(hn:s.tm.length=m:=by rfl):bE P Q F k8 (.inv J s):=fun B w H=>by
 rw[hJ];exact⟨i' (fun j=>(getT s.tm j).den B),g B,hL _,hμ _,by rw[hs,lP (h0 B) hn],hF B w H _⟩
def dig (id:Nat):Code->Option (List Oper)
 | .region i l _=>if i=id then some l.toList else none
 | .seq x y=>match dig id x with
  | some l=>some l
  | none=>dig id y
 | .cond _ x y=>match dig id x with
  | some l=>some l
  | none=>dig id y
 | .block _ x=>dig id x
 | .loop x=>dig id x
 | .scope x=>dig id x
 | _=>none
def bK (id:Nat)(f:Func):List Oper:=match f.body with
 | some c=>(dig id c).getD []
 | none=>[]
theorem uL {l:Array Oper}{M:List Nat}{J:Nat}{S:World->Prop}{R:Exit->Act->World->Prop}{n m:Nat}{L:Array Bool}{B:Nat->Nat}{w:World}{lv:List (Nat × AV)}{bx:List (List AV)}(h0:agL B s.tm lv)(h:∀X,Rest P l M J S R n L (St.act B ⟨mkT X lv 0 m,bx⟩) w)(hn:s.tm.length=m:=by rfl):Rest P l M J S R n L (s.act B) w:=by
 have:=h (fun j=>(getT s.tm j).den B)
 rwa [lP h0 hn]at this
theorem told {α:Type}{x y:α}(p:α->Prop)(h:p y)(e:x=y:=by cbv):p x:=e ▸ h
end
end Go.Proofs.Own
namespace Go.Proofs.YtgeihgombjbkbaaGreat
open Go Go.RowKit Go.Maps Go.Proofs.Own
inductive Ph where
 | a
 | b (a1:Option Addr) (c1:Nat) (L1:List (aL × aT))
 | c (a1:Option Addr) (c1:Nat) (L1:List (aL × aT)) (a2:Option Addr) (c2:Nat) (L2:List (aL × aT))
inductive W8 where
 | n (p:Ph) (x y:Bool) (X:Nat->Value)
 | z (o:Bool) (a1:Option Addr) (c1:Nat) (L1:List (aL × aT)) (a2:Option Addr) (c2:Nat) (L2:List (aL × aT)) (X:Nat->Value)
section
variable (s t:bU) (L M:List (aL × aT)) (a:Option Addr) (n c:Nat) (a2:Option Addr) (n2 c2:Nat) (h:Bx) (w0:World)
def lvP:Ph->List (Nat × AV)
 | .a=>[]
 | .b a1 c1 _=>[(22,.g (bH s a1 n c1))]
 | .c a1 c1 _ a3 c3 _=>[(22,.g (bH s a1 n c1)),(24,.g (bH t a3 n2 c3))]
def lvB:Bool->Bool->List (Nat × AV)
 | false,false=>[]
 | true,false=>[(5,.p 2 0)]
 | false,true=>[(6,.p 2 0)]
 | true,true=>[(5,.p 2 0),(6,.p 3 0)]
def lv0:List (Nat × AV):=[(2,.p 0 0),(3,.p 1 0),(4,.b (.l false)),(21,.g (bH s a n c)),(23,.g (bH t a2 n2 c2))]
def lvW (p:Ph)(b:List (Nat × AV)):List (Nat × AV):=lv0 s t a n c a2 n2 c2++(b++lvP s t n n2 p)
def bxB:Bool->Bool->List (List AV)
 | false,false=>[]
 | true,false=>[qP]
 | false,true=>[qP]
 | true,true=>[qP,qP]
def ssW:W8->St
 | .n p x y X=>⟨mkT X (lvW s t a n c a2 n2 c2 p (lvB x y)) 0 106,bH s a n c::bH t a2 n2 c2::bxB x y⟩
 | .z o a1 c1 L1 a3 c3 L3 X=>⟨mkT X (lvW s t a n c a2 n2 c2 (.c a1 c1 L1 a3 c3 L3) (lvB true true)) 0 106,[bH s a n c,bH t a2 n2 c2,bH s a1 n c1,if o then bH t a3 n2 c3 else qP]⟩
def rP:Ph->World->Prop
 | .a,u=>aN u s L a n c/\aN u t M a2 n2 c2
 | .b a1 c1 L1,u=>aN u s L1 a1 n c1/\aN u s L a n c/\aN u t M a2 n2 c2
 | .c a1 c1 L1 a3 c3 L3,u=>aN u t L3 a3 n2 c3/\aN u s L1 a1 n c1/\aN u s L a n c/\aN u t M a2 n2 c2
def ffW:W8->World->Bx->Prop
 | .n p _ _ _=>FrH h w0 (rP s t L M a n c a2 n2 c2 p)
 | .z _ a1 c1 L1 a3 c3 L3 _=>FrH h w0 (rP s t L M a n c a2 n2 c2 (.c a1 c1 L1 a3 c3 L3))
def phB:Ph->Bool × Bool
 | .a=>(false,false)
 | .b _ _ _=>(true,false)
 | .c _ _ _ _ _ _=>(true,true)
def phN:Ph->Nat
 | .a=>2
 | .b _ _ _=>1
 | .c _ _ _ _ _ _=>0
def b1N:Bool->Nat
 | true=>0
 | false=>1
def lsW:W8->Array Bool
 | .n p x y _=>#[true,(phB p).1,true,(phB p).2,x,y,false,false]
 | .z o _ _ _ _ _ _ _=>#[true,true,true,true,true,true,true,o]
def muW:W8->Nat
 | .n p x y _=>phN p+(b1N x+(b1N y+2))
 | .z o _ _ _ _ _ _ _=>b1N o
end
theorem aL9 {s t:bU}{L M:List (aL × aT)}{a:Option Addr}{n c:Nat}{a2:Option Addr}{n2 c2:Nat}{w0:World}{k:List KF}{R0:Ending->World->Prop}{fn:Func}(hk:plK aA k=true)(h:Bx)(hh:h.length=2)(X:Nat->Value)(m:Nat)(hm:muW (W8.n .a false false X)=m+1):Region.ready .any (bK 3 Tryz.f5).toArray (lsW (W8.n .a false false X)) ≠ [] /\ ∀j ∈ Region.ready .any (bK 3 Tryz.f5).toArray (lsW (W8.n .a false false X)),Ok Tryz.prog (bodyPost Tryz.prog fn R0) (ffW s t L M a n c a2 n2 c2 h w0 (W8.n .a false false X)) (.pl (bK 3 Tryz.f5) 0 [] [] false [.o j]) (ssW s t a n c a2 n2 c2 (W8.n .a false false X)) (.inv (WJ (ssW s t a n c a2 n2 c2) (ffW s t L M a n c a2 n2 c2 h w0) lsW muW ((lsW (W8.n .a false false X)).setIfInBounds j true) m)::k):=by
 cases Nat.succ.inj hm;have e:Region.ready .any (bK 3 Tryz.f5).toArray (lsW (W8.n .a false false X)) = [1,4,5]:=by kernel_rfl
 rw[e];refine⟨nofun,?_⟩;refine told (fun l=>∀j ∈ [1,4,5],Ok Tryz.prog (bodyPost Tryz.prog fn R0) (ffW s t L M a n c a2 n2 c2 h w0 (W8.n .a false false X)) (.pl l 0 [] [] false [.o j]) (ssW s t a n c a2 n2 c2 (W8.n .a false false X)) (.inv (WJ (ssW s t a n c a2 n2 c2) (ffW s t L M a n c a2 n2 c2 h w0) lsW muW ((lsW (W8.n .a false false X)).setIfInBounds j true) _)::k)) ?_;intro j hj;simp only[List.mem_cons,List.not_mem_nil,or_false]at hj;rcases hj with rfl|rfl|rfl
 ·generalize hJ:WJ (ssW s t a n c a2 n2 c2) (ffW s t L M a n c a2 n2 c2 h w0) lsW muW _ _=J;refine ga env (FrH.frm h w0 _ 2 hh) aA ?_ rfl hk;intro B v F;refine(dU s L a n c v F.1.r.1 (Nat.lt_of_le_of_lt (Nat.zero_le _) (F.1.box 0 _ rfl).1)).mono ?_;rintro e w2 ⟨L1,a1,c1,rfl,hs1,hbw⟩;refine⟨.g (bH s a1 n c1),FrH h w0 (rP s t L M a n c a2 n2 c2 (.b a1 c1 L1)),rfl,(FrH.frm h w0 _ 2 hh).b,⟨F.1.next hbw (hs1 _ F.1.few (F.1.get fun _ h=>h.1.acts)),F.2⟩,?_⟩;clear F hbw hs1;refine ga env (FrH.frm h w0 _ 2 hh) aA ?_ rfl hk;exact aZ hJ.symm (fun X=>W8.n (.b a1 c1 L1) false false X) (lvW s t a n c a2 n2 c2 (.b a1 c1 L1) (lvB false false)) 106 id (fun _ _=>rfl) (fun B=>by repeat (first|exact trivial|refine⟨rfl,?_⟩)) (fun _ _ F _=>F)
 ·generalize hJ:WJ (ssW s t a n c a2 n2 c2) (ffW s t L M a n c a2 n2 c2 h w0) lsW muW _ _=J;refine ga env (FrH.frm h w0 _ 2 hh) aA ?_ rfl hk;exact aZ hJ.symm (fun X=>W8.n .a true false X) (lvW s t a n c a2 n2 c2 .a (lvB true false)) 106 id (fun _ _=>rfl) (fun B=>by repeat (first|exact trivial|refine⟨rfl,?_⟩)) (fun _ _ F _=>F)
 ·generalize hJ:WJ (ssW s t a n c a2 n2 c2) (ffW s t L M a n c a2 n2 c2 h w0) lsW muW _ _=J;refine ga env (FrH.frm h w0 _ 2 hh) aA ?_ rfl hk;exact aZ hJ.symm (fun X=>W8.n .a false true X) (lvW s t a n c a2 n2 c2 .a (lvB false true)) 106 id (fun _ _=>rfl) (fun B=>by repeat (first|exact trivial|refine⟨rfl,?_⟩)) (fun _ _ F _=>F)
theorem aKt {s t:bU}{L M:List (aL × aT)}{a:Option Addr}{n c:Nat}{a2:Option Addr}{n2 c2:Nat}{w0:World}{k:List KF}{R0:Ending->World->Prop}{fn:Func}(hk:plK aA k=true)(h:Bx)(hh:h.length=2)(X:Nat->Value)(m:Nat)(hm:muW (W8.n .a false true X)=m+1):Region.ready .any (bK 3 Tryz.f5).toArray (lsW (W8.n .a false true X)) ≠ [] /\ ∀j ∈ Region.ready .any (bK 3 Tryz.f5).toArray (lsW (W8.n .a false true X)),Ok Tryz.prog (bodyPost Tryz.prog fn R0) (ffW s t L M a n c a2 n2 c2 h w0 (W8.n .a false true X)) (.pl (bK 3 Tryz.f5) 0 [] [] false [.o j]) (ssW s t a n c a2 n2 c2 (W8.n .a false true X)) (.inv (WJ (ssW s t a n c a2 n2 c2) (ffW s t L M a n c a2 n2 c2 h w0) lsW muW ((lsW (W8.n .a false true X)).setIfInBounds j true) m)::k):=by
 cases Nat.succ.inj hm;have e:Region.ready .any (bK 3 Tryz.f5).toArray (lsW (W8.n .a false true X)) = [1,4]:=by kernel_rfl
 rw[e];refine⟨nofun,?_⟩;refine told (fun l=>∀j ∈ [1,4],Ok Tryz.prog (bodyPost Tryz.prog fn R0) (ffW s t L M a n c a2 n2 c2 h w0 (W8.n .a false true X)) (.pl l 0 [] [] false [.o j]) (ssW s t a n c a2 n2 c2 (W8.n .a false true X)) (.inv (WJ (ssW s t a n c a2 n2 c2) (ffW s t L M a n c a2 n2 c2 h w0) lsW muW ((lsW (W8.n .a false true X)).setIfInBounds j true) _)::k)) ?_;intro j hj;simp only[List.mem_cons,List.not_mem_nil,or_false]at hj;rcases hj with rfl|rfl
 ·generalize hJ:WJ (ssW s t a n c a2 n2 c2) (ffW s t L M a n c a2 n2 c2 h w0) lsW muW _ _=J;refine ga env (FrH.frm h w0 _ 2 hh) aA ?_ rfl hk;intro B v F;refine(dU s L a n c v F.1.r.1 (Nat.lt_of_le_of_lt (Nat.zero_le _) (F.1.box 0 _ rfl).1)).mono ?_;rintro e w2 ⟨L1,a1,c1,rfl,hs1,hbw⟩;refine⟨.g (bH s a1 n c1),FrH h w0 (rP s t L M a n c a2 n2 c2 (.b a1 c1 L1)),rfl,(FrH.frm h w0 _ 2 hh).b,⟨F.1.next hbw (hs1 _ F.1.few (F.1.get fun _ h=>h.1.acts)),F.2⟩,?_⟩;clear F hbw hs1;refine ga env (FrH.frm h w0 _ 2 hh) aA ?_ rfl hk;exact aZ hJ.symm (fun X=>W8.n (.b a1 c1 L1) false true X) (lvW s t a n c a2 n2 c2 (.b a1 c1 L1) (lvB false true)) 106 id (fun _ _=>rfl) (fun B=>by repeat (first|exact trivial|refine⟨rfl,?_⟩)) (fun _ _ F _=>F)
 ·generalize hJ:WJ (ssW s t a n c a2 n2 c2) (ffW s t L M a n c a2 n2 c2 h w0) lsW muW _ _=J;refine ga env (FrH.frm h w0 _ 2 hh) aA ?_ rfl hk;exact aZ hJ.symm (fun X=>W8.n .a true true X) (lvW s t a n c a2 n2 c2 .a [(5,.p 3 0),(6,.p 2 0)]) 106 swB (fun _ _=>rfl) (fun B=>by repeat (first|exact trivial|refine⟨rfl,?_⟩)) (fun _ _ F _=>FrH.swap hh F)
theorem aKs {s t:bU}{L M:List (aL × aT)}{a:Option Addr}{n c:Nat}{a2:Option Addr}{n2 c2:Nat}{w0:World}{k:List KF}{R0:Ending->World->Prop}{fn:Func}(hk:plK aA k=true)(h:Bx)(hh:h.length=2)(X:Nat->Value)(m:Nat)(hm:muW (W8.n .a true false X)=m+1):Region.ready .any (bK 3 Tryz.f5).toArray (lsW (W8.n .a true false X)) ≠ [] /\ ∀j ∈ Region.ready .any (bK 3 Tryz.f5).toArray (lsW (W8.n .a true false X)),Ok Tryz.prog (bodyPost Tryz.prog fn R0) (ffW s t L M a n c a2 n2 c2 h w0 (W8.n .a true false X)) (.pl (bK 3 Tryz.f5) 0 [] [] false [.o j]) (ssW s t a n c a2 n2 c2 (W8.n .a true false X)) (.inv (WJ (ssW s t a n c a2 n2 c2) (ffW s t L M a n c a2 n2 c2 h w0) lsW muW ((lsW (W8.n .a true false X)).setIfInBounds j true) m)::k):=by
 cases Nat.succ.inj hm;have e:Region.ready .any (bK 3 Tryz.f5).toArray (lsW (W8.n .a true false X)) = [1,5]:=by kernel_rfl
 rw[e];refine⟨nofun,?_⟩;refine told (fun l=>∀j ∈ [1,5],Ok Tryz.prog (bodyPost Tryz.prog fn R0) (ffW s t L M a n c a2 n2 c2 h w0 (W8.n .a true false X)) (.pl l 0 [] [] false [.o j]) (ssW s t a n c a2 n2 c2 (W8.n .a true false X)) (.inv (WJ (ssW s t a n c a2 n2 c2) (ffW s t L M a n c a2 n2 c2 h w0) lsW muW ((lsW (W8.n .a true false X)).setIfInBounds j true) _)::k)) ?_;intro j hj;simp only[List.mem_cons,List.not_mem_nil,or_false]at hj;rcases hj with rfl|rfl
 ·generalize hJ:WJ (ssW s t a n c a2 n2 c2) (ffW s t L M a n c a2 n2 c2 h w0) lsW muW _ _=J;refine ga env (FrH.frm h w0 _ 2 hh) aA ?_ rfl hk;intro B v F;refine(dU s L a n c v F.1.r.1 (Nat.lt_of_le_of_lt (Nat.zero_le _) (F.1.box 0 _ rfl).1)).mono ?_;rintro e w2 ⟨L1,a1,c1,rfl,hs1,hbw⟩;refine⟨.g (bH s a1 n c1),FrH h w0 (rP s t L M a n c a2 n2 c2 (.b a1 c1 L1)),rfl,(FrH.frm h w0 _ 2 hh).b,⟨F.1.next hbw (hs1 _ F.1.few (F.1.get fun _ h=>h.1.acts)),F.2⟩,?_⟩;clear F hbw hs1;refine ga env (FrH.frm h w0 _ 2 hh) aA ?_ rfl hk;exact aZ hJ.symm (fun X=>W8.n (.b a1 c1 L1) true false X) (lvW s t a n c a2 n2 c2 (.b a1 c1 L1) (lvB true false)) 106 id (fun _ _=>rfl) (fun B=>by repeat (first|exact trivial|refine⟨rfl,?_⟩)) (fun _ _ F _=>F)
 ·generalize hJ:WJ (ssW s t a n c a2 n2 c2) (ffW s t L M a n c a2 n2 c2 h w0) lsW muW _ _=J;refine ga env (FrH.frm h w0 _ 2 hh) aA ?_ rfl hk;exact aZ hJ.symm (fun X=>W8.n .a true true X) (lvW s t a n c a2 n2 c2 .a (lvB true true)) 106 id (fun _ _=>rfl) (fun B=>by repeat (first|exact trivial|refine⟨rfl,?_⟩)) (fun _ _ F _=>F)
theorem aI8 {s t:bU}{L M:List (aL × aT)}{a:Option Addr}{n c:Nat}{a2:Option Addr}{n2 c2:Nat}{w0:World}{k:List KF}{R0:Ending->World->Prop}{fn:Func}(hk:plK aA k=true)(h:Bx)(hh:h.length=2)(X:Nat->Value)(m:Nat)(hm:muW (W8.n .a true true X)=m+1):Region.ready .any (bK 3 Tryz.f5).toArray (lsW (W8.n .a true true X)) ≠ [] /\ ∀j ∈ Region.ready .any (bK 3 Tryz.f5).toArray (lsW (W8.n .a true true X)),Ok Tryz.prog (bodyPost Tryz.prog fn R0) (ffW s t L M a n c a2 n2 c2 h w0 (W8.n .a true true X)) (.pl (bK 3 Tryz.f5) 0 [] [] false [.o j]) (ssW s t a n c a2 n2 c2 (W8.n .a true true X)) (.inv (WJ (ssW s t a n c a2 n2 c2) (ffW s t L M a n c a2 n2 c2 h w0) lsW muW ((lsW (W8.n .a true true X)).setIfInBounds j true) m)::k):=by
 cases Nat.succ.inj hm;have e:Region.ready .any (bK 3 Tryz.f5).toArray (lsW (W8.n .a true true X)) = [1]:=by kernel_rfl
 rw[e];refine⟨nofun,?_⟩;refine told (fun l=>∀j ∈ [1],Ok Tryz.prog (bodyPost Tryz.prog fn R0) (ffW s t L M a n c a2 n2 c2 h w0 (W8.n .a true true X)) (.pl l 0 [] [] false [.o j]) (ssW s t a n c a2 n2 c2 (W8.n .a true true X)) (.inv (WJ (ssW s t a n c a2 n2 c2) (ffW s t L M a n c a2 n2 c2 h w0) lsW muW ((lsW (W8.n .a true true X)).setIfInBounds j true) _)::k)) ?_;intro j hj;simp only[List.mem_cons,List.not_mem_nil,or_false]at hj;subst hj;generalize hJ:WJ (ssW s t a n c a2 n2 c2) (ffW s t L M a n c a2 n2 c2 h w0) lsW muW _ _=J;refine ga env (FrH.frm h w0 _ 2 hh) aA ?_ rfl hk;intro B v F;refine(dU s L a n c v F.1.r.1 (Nat.lt_of_le_of_lt (Nat.zero_le _) (F.1.box 0 _ rfl).1)).mono ?_;rintro e w2 ⟨L1,a1,c1,rfl,hs1,hbw⟩;refine⟨.g (bH s a1 n c1),FrH h w0 (rP s t L M a n c a2 n2 c2 (.b a1 c1 L1)),rfl,(FrH.frm h w0 _ 2 hh).b,⟨F.1.next hbw (hs1 _ F.1.few (F.1.get fun _ h=>h.1.acts)),F.2⟩,?_⟩;clear F hbw hs1;refine ga env (FrH.frm h w0 _ 2 hh) aA ?_ rfl hk;exact aZ hJ.symm (fun X=>W8.n (.b a1 c1 L1) true true X) (lvW s t a n c a2 n2 c2 (.b a1 c1 L1) (lvB true true)) 106 id (fun _ _=>rfl) (fun B=>by repeat (first|exact trivial|refine⟨rfl,?_⟩)) (fun _ _ F _=>F)
theorem aMa {s t:bU}{L M:List (aL × aT)}{a:Option Addr}{n c:Nat}{a2:Option Addr}{n2 c2:Nat}{w0:World}{k:List KF}{R0:Ending->World->Prop}{fn:Func}(hk:plK aA k=true)(h:Bx)(hh:h.length=2)(a1:Option Addr)(c1:Nat)(L1:List (aL × aT))(X:Nat->Value)(m:Nat)(hm:muW (W8.n (.b a1 c1 L1) false false X)=m+1):Region.ready .any (bK 3 Tryz.f5).toArray (lsW (W8.n (.b a1 c1 L1) false false X)) ≠ [] /\ ∀j ∈ Region.ready .any (bK 3 Tryz.f5).toArray (lsW (W8.n (.b a1 c1 L1) false false X)),Ok Tryz.prog (bodyPost Tryz.prog fn R0) (ffW s t L M a n c a2 n2 c2 h w0 (W8.n (.b a1 c1 L1) false false X)) (.pl (bK 3 Tryz.f5) 0 [] [] false [.o j]) (ssW s t a n c a2 n2 c2 (W8.n (.b a1 c1 L1) false false X)) (.inv (WJ (ssW s t a n c a2 n2 c2) (ffW s t L M a n c a2 n2 c2 h w0) lsW muW ((lsW (W8.n (.b a1 c1 L1) false false X)).setIfInBounds j true) m)::k):=by
 cases Nat.succ.inj hm;have e:Region.ready .any (bK 3 Tryz.f5).toArray (lsW (W8.n (.b a1 c1 L1) false false X)) = [3,4,5]:=by kernel_rfl
 rw[e];refine⟨nofun,?_⟩;refine told (fun l=>∀j ∈ [3,4,5],Ok Tryz.prog (bodyPost Tryz.prog fn R0) (ffW s t L M a n c a2 n2 c2 h w0 (W8.n (.b a1 c1 L1) false false X)) (.pl l 0 [] [] false [.o j]) (ssW s t a n c a2 n2 c2 (W8.n (.b a1 c1 L1) false false X)) (.inv (WJ (ssW s t a n c a2 n2 c2) (ffW s t L M a n c a2 n2 c2 h w0) lsW muW ((lsW (W8.n (.b a1 c1 L1) false false X)).setIfInBounds j true) _)::k)) ?_;intro j hj;simp only[List.mem_cons,List.not_mem_nil,or_false]at hj;rcases hj with rfl|rfl|rfl
 ·generalize hJ:WJ (ssW s t a n c a2 n2 c2) (ffW s t L M a n c a2 n2 c2 h w0) lsW muW _ _=J;refine ga env (FrH.frm h w0 _ 2 hh) aA ?_ rfl hk;intro B v F;refine(dU t M a2 n2 c2 v F.1.r.2.2 (Nat.lt_of_le_of_lt (Nat.zero_le _) (F.1.box 0 _ rfl).1)).mono ?_;rintro e w2 ⟨L3,a3,c3,rfl,hs1,hbw⟩;refine⟨.g (bH t a3 n2 c3),FrH h w0 (rP s t L M a n c a2 n2 c2 (.c a1 c1 L1 a3 c3 L3)),rfl,(FrH.frm h w0 _ 2 hh).b,⟨F.1.next hbw (hs1 _ F.1.few (F.1.get fun _ h=>h.2.2.acts)),F.2⟩,?_⟩;clear F hbw hs1;refine ga env (FrH.frm h w0 _ 2 hh) aA ?_ rfl hk;exact aZ hJ.symm (fun X=>W8.n (.c a1 c1 L1 a3 c3 L3) false false X) (lvW s t a n c a2 n2 c2 (.c a1 c1 L1 a3 c3 L3) (lvB false false)) 106 id (fun _ _=>rfl) (fun B=>by repeat (first|exact trivial|refine⟨rfl,?_⟩)) (fun _ _ F _=>F)
 ·generalize hJ:WJ (ssW s t a n c a2 n2 c2) (ffW s t L M a n c a2 n2 c2 h w0) lsW muW _ _=J;refine ga env (FrH.frm h w0 _ 2 hh) aA ?_ rfl hk;exact aZ hJ.symm (fun X=>W8.n (.b a1 c1 L1) true false X) (lvW s t a n c a2 n2 c2 (.b a1 c1 L1) (lvB true false)) 106 id (fun _ _=>rfl) (fun B=>by repeat (first|exact trivial|refine⟨rfl,?_⟩)) (fun _ _ F _=>F)
 ·generalize hJ:WJ (ssW s t a n c a2 n2 c2) (ffW s t L M a n c a2 n2 c2 h w0) lsW muW _ _=J;refine ga env (FrH.frm h w0 _ 2 hh) aA ?_ rfl hk;exact aZ hJ.symm (fun X=>W8.n (.b a1 c1 L1) false true X) (lvW s t a n c a2 n2 c2 (.b a1 c1 L1) (lvB false true)) 106 id (fun _ _=>rfl) (fun B=>by repeat (first|exact trivial|refine⟨rfl,?_⟩)) (fun _ _ F _=>F)
theorem aKv {s t:bU}{L M:List (aL × aT)}{a:Option Addr}{n c:Nat}{a2:Option Addr}{n2 c2:Nat}{w0:World}{k:List KF}{R0:Ending->World->Prop}{fn:Func}(hk:plK aA k=true)(h:Bx)(hh:h.length=2)(a1:Option Addr)(c1:Nat)(L1:List (aL × aT))(X:Nat->Value)(m:Nat)(hm:muW (W8.n (.b a1 c1 L1) false true X)=m+1):Region.ready .any (bK 3 Tryz.f5).toArray (lsW (W8.n (.b a1 c1 L1) false true X)) ≠ [] /\ ∀j ∈ Region.ready .any (bK 3 Tryz.f5).toArray (lsW (W8.n (.b a1 c1 L1) false true X)),Ok Tryz.prog (bodyPost Tryz.prog fn R0) (ffW s t L M a n c a2 n2 c2 h w0 (W8.n (.b a1 c1 L1) false true X)) (.pl (bK 3 Tryz.f5) 0 [] [] false [.o j]) (ssW s t a n c a2 n2 c2 (W8.n (.b a1 c1 L1) false true X)) (.inv (WJ (ssW s t a n c a2 n2 c2) (ffW s t L M a n c a2 n2 c2 h w0) lsW muW ((lsW (W8.n (.b a1 c1 L1) false true X)).setIfInBounds j true) m)::k):=by
 cases Nat.succ.inj hm;have e:Region.ready .any (bK 3 Tryz.f5).toArray (lsW (W8.n (.b a1 c1 L1) false true X)) = [3,4]:=by kernel_rfl
 rw[e];refine⟨nofun,?_⟩;refine told (fun l=>∀j ∈ [3,4],Ok Tryz.prog (bodyPost Tryz.prog fn R0) (ffW s t L M a n c a2 n2 c2 h w0 (W8.n (.b a1 c1 L1) false true X)) (.pl l 0 [] [] false [.o j]) (ssW s t a n c a2 n2 c2 (W8.n (.b a1 c1 L1) false true X)) (.inv (WJ (ssW s t a n c a2 n2 c2) (ffW s t L M a n c a2 n2 c2 h w0) lsW muW ((lsW (W8.n (.b a1 c1 L1) false true X)).setIfInBounds j true) _)::k)) ?_;intro j hj;simp only[List.mem_cons,List.not_mem_nil,or_false]at hj;rcases hj with rfl|rfl
 ·generalize hJ:WJ (ssW s t a n c a2 n2 c2) (ffW s t L M a n c a2 n2 c2 h w0) lsW muW _ _=J;refine ga env (FrH.frm h w0 _ 2 hh) aA ?_ rfl hk;intro B v F;refine(dU t M a2 n2 c2 v F.1.r.2.2 (Nat.lt_of_le_of_lt (Nat.zero_le _) (F.1.box 0 _ rfl).1)).mono ?_;rintro e w2 ⟨L3,a3,c3,rfl,hs1,hbw⟩;refine⟨.g (bH t a3 n2 c3),FrH h w0 (rP s t L M a n c a2 n2 c2 (.c a1 c1 L1 a3 c3 L3)),rfl,(FrH.frm h w0 _ 2 hh).b,⟨F.1.next hbw (hs1 _ F.1.few (F.1.get fun _ h=>h.2.2.acts)),F.2⟩,?_⟩;clear F hbw hs1;refine ga env (FrH.frm h w0 _ 2 hh) aA ?_ rfl hk;exact aZ hJ.symm (fun X=>W8.n (.c a1 c1 L1 a3 c3 L3) false true X) (lvW s t a n c a2 n2 c2 (.c a1 c1 L1 a3 c3 L3) (lvB false true)) 106 id (fun _ _=>rfl) (fun B=>by repeat (first|exact trivial|refine⟨rfl,?_⟩)) (fun _ _ F _=>F)
 ·generalize hJ:WJ (ssW s t a n c a2 n2 c2) (ffW s t L M a n c a2 n2 c2 h w0) lsW muW _ _=J;refine ga env (FrH.frm h w0 _ 2 hh) aA ?_ rfl hk;exact aZ hJ.symm (fun X=>W8.n (.b a1 c1 L1) true true X) (lvW s t a n c a2 n2 c2 (.b a1 c1 L1) [(5,.p 3 0),(6,.p 2 0)]) 106 swB (fun _ _=>rfl) (fun B=>by repeat (first|exact trivial|refine⟨rfl,?_⟩)) (fun _ _ F _=>FrH.swap hh F)
theorem aKu {s t:bU}{L M:List (aL × aT)}{a:Option Addr}{n c:Nat}{a2:Option Addr}{n2 c2:Nat}{w0:World}{k:List KF}{R0:Ending->World->Prop}{fn:Func}(hk:plK aA k=true)(h:Bx)(hh:h.length=2)(a1:Option Addr)(c1:Nat)(L1:List (aL × aT))(X:Nat->Value)(m:Nat)(hm:muW (W8.n (.b a1 c1 L1) true false X)=m+1):Region.ready .any (bK 3 Tryz.f5).toArray (lsW (W8.n (.b a1 c1 L1) true false X)) ≠ [] /\ ∀j ∈ Region.ready .any (bK 3 Tryz.f5).toArray (lsW (W8.n (.b a1 c1 L1) true false X)),Ok Tryz.prog (bodyPost Tryz.prog fn R0) (ffW s t L M a n c a2 n2 c2 h w0 (W8.n (.b a1 c1 L1) true false X)) (.pl (bK 3 Tryz.f5) 0 [] [] false [.o j]) (ssW s t a n c a2 n2 c2 (W8.n (.b a1 c1 L1) true false X)) (.inv (WJ (ssW s t a n c a2 n2 c2) (ffW s t L M a n c a2 n2 c2 h w0) lsW muW ((lsW (W8.n (.b a1 c1 L1) true false X)).setIfInBounds j true) m)::k):=by
 cases Nat.succ.inj hm;have e:Region.ready .any (bK 3 Tryz.f5).toArray (lsW (W8.n (.b a1 c1 L1) true false X)) = [3,5]:=by kernel_rfl
 rw[e];refine⟨nofun,?_⟩;refine told (fun l=>∀j ∈ [3,5],Ok Tryz.prog (bodyPost Tryz.prog fn R0) (ffW s t L M a n c a2 n2 c2 h w0 (W8.n (.b a1 c1 L1) true false X)) (.pl l 0 [] [] false [.o j]) (ssW s t a n c a2 n2 c2 (W8.n (.b a1 c1 L1) true false X)) (.inv (WJ (ssW s t a n c a2 n2 c2) (ffW s t L M a n c a2 n2 c2 h w0) lsW muW ((lsW (W8.n (.b a1 c1 L1) true false X)).setIfInBounds j true) _)::k)) ?_;intro j hj;simp only[List.mem_cons,List.not_mem_nil,or_false]at hj;rcases hj with rfl|rfl
 ·generalize hJ:WJ (ssW s t a n c a2 n2 c2) (ffW s t L M a n c a2 n2 c2 h w0) lsW muW _ _=J;refine ga env (FrH.frm h w0 _ 2 hh) aA ?_ rfl hk;intro B v F;refine(dU t M a2 n2 c2 v F.1.r.2.2 (Nat.lt_of_le_of_lt (Nat.zero_le _) (F.1.box 0 _ rfl).1)).mono ?_;rintro e w2 ⟨L3,a3,c3,rfl,hs1,hbw⟩;refine⟨.g (bH t a3 n2 c3),FrH h w0 (rP s t L M a n c a2 n2 c2 (.c a1 c1 L1 a3 c3 L3)),rfl,(FrH.frm h w0 _ 2 hh).b,⟨F.1.next hbw (hs1 _ F.1.few (F.1.get fun _ h=>h.2.2.acts)),F.2⟩,?_⟩;clear F hbw hs1;refine ga env (FrH.frm h w0 _ 2 hh) aA ?_ rfl hk;exact aZ hJ.symm (fun X=>W8.n (.c a1 c1 L1 a3 c3 L3) true false X) (lvW s t a n c a2 n2 c2 (.c a1 c1 L1 a3 c3 L3) (lvB true false)) 106 id (fun _ _=>rfl) (fun B=>by repeat (first|exact trivial|refine⟨rfl,?_⟩)) (fun _ _ F _=>F)
 ·generalize hJ:WJ (ssW s t a n c a2 n2 c2) (ffW s t L M a n c a2 n2 c2 h w0) lsW muW _ _=J;refine ga env (FrH.frm h w0 _ 2 hh) aA ?_ rfl hk;exact aZ hJ.symm (fun X=>W8.n (.b a1 c1 L1) true true X) (lvW s t a n c a2 n2 c2 (.b a1 c1 L1) (lvB true true)) 106 id (fun _ _=>rfl) (fun B=>by repeat (first|exact trivial|refine⟨rfl,?_⟩)) (fun _ _ F _=>F)
theorem aI9 {s t:bU}{L M:List (aL × aT)}{a:Option Addr}{n c:Nat}{a2:Option Addr}{n2 c2:Nat}{w0:World}{k:List KF}{R0:Ending->World->Prop}{fn:Func}(hk:plK aA k=true)(h:Bx)(hh:h.length=2)(a1:Option Addr)(c1:Nat)(L1:List (aL × aT))(X:Nat->Value)(m:Nat)(hm:muW (W8.n (.b a1 c1 L1) true true X)=m+1):Region.ready .any (bK 3 Tryz.f5).toArray (lsW (W8.n (.b a1 c1 L1) true true X)) ≠ [] /\ ∀j ∈ Region.ready .any (bK 3 Tryz.f5).toArray (lsW (W8.n (.b a1 c1 L1) true true X)),Ok Tryz.prog (bodyPost Tryz.prog fn R0) (ffW s t L M a n c a2 n2 c2 h w0 (W8.n (.b a1 c1 L1) true true X)) (.pl (bK 3 Tryz.f5) 0 [] [] false [.o j]) (ssW s t a n c a2 n2 c2 (W8.n (.b a1 c1 L1) true true X)) (.inv (WJ (ssW s t a n c a2 n2 c2) (ffW s t L M a n c a2 n2 c2 h w0) lsW muW ((lsW (W8.n (.b a1 c1 L1) true true X)).setIfInBounds j true) m)::k):=by
 cases Nat.succ.inj hm;have e:Region.ready .any (bK 3 Tryz.f5).toArray (lsW (W8.n (.b a1 c1 L1) true true X)) = [3]:=by kernel_rfl
 rw[e];refine⟨nofun,?_⟩;refine told (fun l=>∀j ∈ [3],Ok Tryz.prog (bodyPost Tryz.prog fn R0) (ffW s t L M a n c a2 n2 c2 h w0 (W8.n (.b a1 c1 L1) true true X)) (.pl l 0 [] [] false [.o j]) (ssW s t a n c a2 n2 c2 (W8.n (.b a1 c1 L1) true true X)) (.inv (WJ (ssW s t a n c a2 n2 c2) (ffW s t L M a n c a2 n2 c2 h w0) lsW muW ((lsW (W8.n (.b a1 c1 L1) true true X)).setIfInBounds j true) _)::k)) ?_;intro j hj;simp only[List.mem_cons,List.not_mem_nil,or_false]at hj;subst hj;generalize hJ:WJ (ssW s t a n c a2 n2 c2) (ffW s t L M a n c a2 n2 c2 h w0) lsW muW _ _=J;refine ga env (FrH.frm h w0 _ 2 hh) aA ?_ rfl hk;intro B v F;refine(dU t M a2 n2 c2 v F.1.r.2.2 (Nat.lt_of_le_of_lt (Nat.zero_le _) (F.1.box 0 _ rfl).1)).mono ?_;rintro e w2 ⟨L3,a3,c3,rfl,hs1,hbw⟩;refine⟨.g (bH t a3 n2 c3),FrH h w0 (rP s t L M a n c a2 n2 c2 (.c a1 c1 L1 a3 c3 L3)),rfl,(FrH.frm h w0 _ 2 hh).b,⟨F.1.next hbw (hs1 _ F.1.few (F.1.get fun _ h=>h.2.2.acts)),F.2⟩,?_⟩;clear F hbw hs1;refine ga env (FrH.frm h w0 _ 2 hh) aA ?_ rfl hk;exact aZ hJ.symm (fun X=>W8.n (.c a1 c1 L1 a3 c3 L3) true true X) (lvW s t a n c a2 n2 c2 (.c a1 c1 L1 a3 c3 L3) (lvB true true)) 106 id (fun _ _=>rfl) (fun B=>by repeat (first|exact trivial|refine⟨rfl,?_⟩)) (fun _ _ F _=>F)
theorem aMb {s t:bU}{L M:List (aL × aT)}{a:Option Addr}{n c:Nat}{a2:Option Addr}{n2 c2:Nat}{w0:World}{k:List KF}{R0:Ending->World->Prop}{fn:Func}(hk:plK aA k=true)(h:Bx)(hh:h.length=2)(a1:Option Addr)(c1:Nat)(L1:List (aL × aT))(a3:Option Addr)(c3:Nat)(L3:List (aL × aT))(X:Nat->Value)(m:Nat)(hm:muW (W8.n (.c a1 c1 L1 a3 c3 L3) false false X)=m+1):Region.ready .any (bK 3 Tryz.f5).toArray (lsW (W8.n (.c a1 c1 L1 a3 c3 L3) false false X)) ≠ [] /\ ∀j ∈ Region.ready .any (bK 3 Tryz.f5).toArray (lsW (W8.n (.c a1 c1 L1 a3 c3 L3) false false X)),Ok Tryz.prog (bodyPost Tryz.prog fn R0) (ffW s t L M a n c a2 n2 c2 h w0 (W8.n (.c a1 c1 L1 a3 c3 L3) false false X)) (.pl (bK 3 Tryz.f5) 0 [] [] false [.o j]) (ssW s t a n c a2 n2 c2 (W8.n (.c a1 c1 L1 a3 c3 L3) false false X)) (.inv (WJ (ssW s t a n c a2 n2 c2) (ffW s t L M a n c a2 n2 c2 h w0) lsW muW ((lsW (W8.n (.c a1 c1 L1 a3 c3 L3) false false X)).setIfInBounds j true) m)::k):=by
 cases Nat.succ.inj hm;have e:Region.ready .any (bK 3 Tryz.f5).toArray (lsW (W8.n (.c a1 c1 L1 a3 c3 L3) false false X)) = [4,5]:=by kernel_rfl
 rw[e];refine⟨nofun,?_⟩;refine told (fun l=>∀j ∈ [4,5],Ok Tryz.prog (bodyPost Tryz.prog fn R0) (ffW s t L M a n c a2 n2 c2 h w0 (W8.n (.c a1 c1 L1 a3 c3 L3) false false X)) (.pl l 0 [] [] false [.o j]) (ssW s t a n c a2 n2 c2 (W8.n (.c a1 c1 L1 a3 c3 L3) false false X)) (.inv (WJ (ssW s t a n c a2 n2 c2) (ffW s t L M a n c a2 n2 c2 h w0) lsW muW ((lsW (W8.n (.c a1 c1 L1 a3 c3 L3) false false X)).setIfInBounds j true) _)::k)) ?_;intro j hj;simp only[List.mem_cons,List.not_mem_nil,or_false]at hj;rcases hj with rfl|rfl
 ·generalize hJ:WJ (ssW s t a n c a2 n2 c2) (ffW s t L M a n c a2 n2 c2 h w0) lsW muW _ _=J;refine ga env (FrH.frm h w0 _ 2 hh) aA ?_ rfl hk;exact aZ hJ.symm (fun X=>W8.n (.c a1 c1 L1 a3 c3 L3) true false X) (lvW s t a n c a2 n2 c2 (.c a1 c1 L1 a3 c3 L3) (lvB true false)) 106 id (fun _ _=>rfl) (fun B=>by repeat (first|exact trivial|refine⟨rfl,?_⟩)) (fun _ _ F _=>F)
 ·generalize hJ:WJ (ssW s t a n c a2 n2 c2) (ffW s t L M a n c a2 n2 c2 h w0) lsW muW _ _=J;refine ga env (FrH.frm h w0 _ 2 hh) aA ?_ rfl hk;exact aZ hJ.symm (fun X=>W8.n (.c a1 c1 L1 a3 c3 L3) false true X) (lvW s t a n c a2 n2 c2 (.c a1 c1 L1 a3 c3 L3) (lvB false true)) 106 id (fun _ _=>rfl) (fun B=>by repeat (first|exact trivial|refine⟨rfl,?_⟩)) (fun _ _ F _=>F)
theorem aKx {s t:bU}{L M:List (aL × aT)}{a:Option Addr}{n c:Nat}{a2:Option Addr}{n2 c2:Nat}{w0:World}{k:List KF}{R0:Ending->World->Prop}{fn:Func}(hk:plK aA k=true)(h:Bx)(hh:h.length=2)(a1:Option Addr)(c1:Nat)(L1:List (aL × aT))(a3:Option Addr)(c3:Nat)(L3:List (aL × aT))(X:Nat->Value)(m:Nat)(hm:muW (W8.n (.c a1 c1 L1 a3 c3 L3) false true X)=m+1):Region.ready .any (bK 3 Tryz.f5).toArray (lsW (W8.n (.c a1 c1 L1 a3 c3 L3) false true X)) ≠ [] /\ ∀j ∈ Region.ready .any (bK 3 Tryz.f5).toArray (lsW (W8.n (.c a1 c1 L1 a3 c3 L3) false true X)),Ok Tryz.prog (bodyPost Tryz.prog fn R0) (ffW s t L M a n c a2 n2 c2 h w0 (W8.n (.c a1 c1 L1 a3 c3 L3) false true X)) (.pl (bK 3 Tryz.f5) 0 [] [] false [.o j]) (ssW s t a n c a2 n2 c2 (W8.n (.c a1 c1 L1 a3 c3 L3) false true X)) (.inv (WJ (ssW s t a n c a2 n2 c2) (ffW s t L M a n c a2 n2 c2 h w0) lsW muW ((lsW (W8.n (.c a1 c1 L1 a3 c3 L3) false true X)).setIfInBounds j true) m)::k):=by
 cases Nat.succ.inj hm;have e:Region.ready .any (bK 3 Tryz.f5).toArray (lsW (W8.n (.c a1 c1 L1 a3 c3 L3) false true X)) = [4]:=by kernel_rfl
 rw[e];refine⟨nofun,?_⟩;refine told (fun l=>∀j ∈ [4],Ok Tryz.prog (bodyPost Tryz.prog fn R0) (ffW s t L M a n c a2 n2 c2 h w0 (W8.n (.c a1 c1 L1 a3 c3 L3) false true X)) (.pl l 0 [] [] false [.o j]) (ssW s t a n c a2 n2 c2 (W8.n (.c a1 c1 L1 a3 c3 L3) false true X)) (.inv (WJ (ssW s t a n c a2 n2 c2) (ffW s t L M a n c a2 n2 c2 h w0) lsW muW ((lsW (W8.n (.c a1 c1 L1 a3 c3 L3) false true X)).setIfInBounds j true) _)::k)) ?_;intro j hj;simp only[List.mem_cons,List.not_mem_nil,or_false]at hj;subst hj;generalize hJ:WJ (ssW s t a n c a2 n2 c2) (ffW s t L M a n c a2 n2 c2 h w0) lsW muW _ _=J;refine ga env (FrH.frm h w0 _ 2 hh) aA ?_ rfl hk;exact aZ hJ.symm (fun X=>W8.n (.c a1 c1 L1 a3 c3 L3) true true X) (lvW s t a n c a2 n2 c2 (.c a1 c1 L1 a3 c3 L3) [(5,.p 3 0),(6,.p 2 0)]) 106 swB (fun _ _=>rfl) (fun B=>by repeat (first|exact trivial|refine⟨rfl,?_⟩)) (fun _ _ F _=>FrH.swap hh F)
theorem aKw {s t:bU}{L M:List (aL × aT)}{a:Option Addr}{n c:Nat}{a2:Option Addr}{n2 c2:Nat}{w0:World}{k:List KF}{R0:Ending->World->Prop}{fn:Func}(hk:plK aA k=true)(h:Bx)(hh:h.length=2)(a1:Option Addr)(c1:Nat)(L1:List (aL × aT))(a3:Option Addr)(c3:Nat)(L3:List (aL × aT))(X:Nat->Value)(m:Nat)(hm:muW (W8.n (.c a1 c1 L1 a3 c3 L3) true false X)=m+1):Region.ready .any (bK 3 Tryz.f5).toArray (lsW (W8.n (.c a1 c1 L1 a3 c3 L3) true false X)) ≠ [] /\ ∀j ∈ Region.ready .any (bK 3 Tryz.f5).toArray (lsW (W8.n (.c a1 c1 L1 a3 c3 L3) true false X)),Ok Tryz.prog (bodyPost Tryz.prog fn R0) (ffW s t L M a n c a2 n2 c2 h w0 (W8.n (.c a1 c1 L1 a3 c3 L3) true false X)) (.pl (bK 3 Tryz.f5) 0 [] [] false [.o j]) (ssW s t a n c a2 n2 c2 (W8.n (.c a1 c1 L1 a3 c3 L3) true false X)) (.inv (WJ (ssW s t a n c a2 n2 c2) (ffW s t L M a n c a2 n2 c2 h w0) lsW muW ((lsW (W8.n (.c a1 c1 L1 a3 c3 L3) true false X)).setIfInBounds j true) m)::k):=by
 cases Nat.succ.inj hm;have e:Region.ready .any (bK 3 Tryz.f5).toArray (lsW (W8.n (.c a1 c1 L1 a3 c3 L3) true false X)) = [5]:=by kernel_rfl
 rw[e];refine⟨nofun,?_⟩;refine told (fun l=>∀j ∈ [5],Ok Tryz.prog (bodyPost Tryz.prog fn R0) (ffW s t L M a n c a2 n2 c2 h w0 (W8.n (.c a1 c1 L1 a3 c3 L3) true false X)) (.pl l 0 [] [] false [.o j]) (ssW s t a n c a2 n2 c2 (W8.n (.c a1 c1 L1 a3 c3 L3) true false X)) (.inv (WJ (ssW s t a n c a2 n2 c2) (ffW s t L M a n c a2 n2 c2 h w0) lsW muW ((lsW (W8.n (.c a1 c1 L1 a3 c3 L3) true false X)).setIfInBounds j true) _)::k)) ?_;intro j hj;simp only[List.mem_cons,List.not_mem_nil,or_false]at hj;subst hj;generalize hJ:WJ (ssW s t a n c a2 n2 c2) (ffW s t L M a n c a2 n2 c2 h w0) lsW muW _ _=J;refine ga env (FrH.frm h w0 _ 2 hh) aA ?_ rfl hk;exact aZ hJ.symm (fun X=>W8.n (.c a1 c1 L1 a3 c3 L3) true true X) (lvW s t a n c a2 n2 c2 (.c a1 c1 L1 a3 c3 L3) (lvB true true)) 106 id (fun _ _=>rfl) (fun B=>by repeat (first|exact trivial|refine⟨rfl,?_⟩)) (fun _ _ F _=>F)
theorem aJa {s t:bU}{L M:List (aL × aT)}{a:Option Addr}{n c:Nat}{a2:Option Addr}{n2 c2:Nat}{w0:World}{k:List KF}{R0:Ending->World->Prop}{fn:Func}(hk:plK aA k=true)(h:Bx)(hh:h.length=2)(a1:Option Addr)(c1:Nat)(L1:List (aL × aT))(a3:Option Addr)(c3:Nat)(L3:List (aL × aT))(X:Nat->Value)(m:Nat)(hm:muW (W8.n (.c a1 c1 L1 a3 c3 L3) true true X)=m+1):Region.ready .any (bK 3 Tryz.f5).toArray (lsW (W8.n (.c a1 c1 L1 a3 c3 L3) true true X)) ≠ [] /\ ∀j ∈ Region.ready .any (bK 3 Tryz.f5).toArray (lsW (W8.n (.c a1 c1 L1 a3 c3 L3) true true X)),Ok Tryz.prog (bodyPost Tryz.prog fn R0) (ffW s t L M a n c a2 n2 c2 h w0 (W8.n (.c a1 c1 L1 a3 c3 L3) true true X)) (.pl (bK 3 Tryz.f5) 0 [] [] false [.o j]) (ssW s t a n c a2 n2 c2 (W8.n (.c a1 c1 L1 a3 c3 L3) true true X)) (.inv (WJ (ssW s t a n c a2 n2 c2) (ffW s t L M a n c a2 n2 c2 h w0) lsW muW ((lsW (W8.n (.c a1 c1 L1 a3 c3 L3) true true X)).setIfInBounds j true) m)::k):=by
 cases Nat.succ.inj hm;have e:Region.ready .any (bK 3 Tryz.f5).toArray (lsW (W8.n (.c a1 c1 L1 a3 c3 L3) true true X)) = [6]:=by kernel_rfl
 rw[e];refine⟨nofun,?_⟩;refine told (fun l=>∀j ∈ [6],Ok Tryz.prog (bodyPost Tryz.prog fn R0) (ffW s t L M a n c a2 n2 c2 h w0 (W8.n (.c a1 c1 L1 a3 c3 L3) true true X)) (.pl l 0 [] [] false [.o j]) (ssW s t a n c a2 n2 c2 (W8.n (.c a1 c1 L1 a3 c3 L3) true true X)) (.inv (WJ (ssW s t a n c a2 n2 c2) (ffW s t L M a n c a2 n2 c2 h w0) lsW muW ((lsW (W8.n (.c a1 c1 L1 a3 c3 L3) true true X)).setIfInBounds j true) _)::k)) ?_;intro j hj;simp only[List.mem_cons,List.not_mem_nil,or_false]at hj;subst hj;generalize hJ:WJ (ssW s t a n c a2 n2 c2) (ffW s t L M a n c a2 n2 c2 h w0) lsW muW _ _=J;refine ga env (FrH.frm h w0 _ 2 hh) aA ?_ rfl hk;exact aZ hJ.symm (fun X=>W8.z false a1 c1 L1 a3 c3 L3 X) (lvW s t a n c a2 n2 c2 (.c a1 c1 L1 a3 c3 L3) (lvB true true)) 106 id (fun _ _=>rfl) (fun B=>by repeat (first|exact trivial|refine⟨rfl,?_⟩)) (fun _ _ F _=>F)
theorem aMc {s t:bU}{L M:List (aL × aT)}{a:Option Addr}{n c:Nat}{a2:Option Addr}{n2 c2:Nat}{w0:World}{k:List KF}{R0:Ending->World->Prop}{fn:Func}(hk:plK aA k=true)(h:Bx)(hh:h.length=2)(a1:Option Addr)(c1:Nat)(L1:List (aL × aT))(a3:Option Addr)(c3:Nat)(L3:List (aL × aT))(X:Nat->Value)(m:Nat)(hm:muW (W8.z false a1 c1 L1 a3 c3 L3 X)=m+1):Region.ready .any (bK 3 Tryz.f5).toArray (lsW (W8.z false a1 c1 L1 a3 c3 L3 X)) ≠ [] /\ ∀j ∈ Region.ready .any (bK 3 Tryz.f5).toArray (lsW (W8.z false a1 c1 L1 a3 c3 L3 X)),Ok Tryz.prog (bodyPost Tryz.prog fn R0) (ffW s t L M a n c a2 n2 c2 h w0 (W8.z false a1 c1 L1 a3 c3 L3 X)) (.pl (bK 3 Tryz.f5) 0 [] [] false [.o j]) (ssW s t a n c a2 n2 c2 (W8.z false a1 c1 L1 a3 c3 L3 X)) (.inv (WJ (ssW s t a n c a2 n2 c2) (ffW s t L M a n c a2 n2 c2 h w0) lsW muW ((lsW (W8.z false a1 c1 L1 a3 c3 L3 X)).setIfInBounds j true) m)::k):=by
 cases Nat.succ.inj hm;have e:Region.ready .any (bK 3 Tryz.f5).toArray (lsW (W8.z false a1 c1 L1 a3 c3 L3 X)) = [7]:=by kernel_rfl
 rw[e];refine⟨nofun,?_⟩;refine told (fun l=>∀j ∈ [7],Ok Tryz.prog (bodyPost Tryz.prog fn R0) (ffW s t L M a n c a2 n2 c2 h w0 (W8.z false a1 c1 L1 a3 c3 L3 X)) (.pl l 0 [] [] false [.o j]) (ssW s t a n c a2 n2 c2 (W8.z false a1 c1 L1 a3 c3 L3 X)) (.inv (WJ (ssW s t a n c a2 n2 c2) (ffW s t L M a n c a2 n2 c2 h w0) lsW muW ((lsW (W8.z false a1 c1 L1 a3 c3 L3 X)).setIfInBounds j true) _)::k)) ?_;intro j hj;simp only[List.mem_cons,List.not_mem_nil,or_false]at hj;subst hj;generalize hJ:WJ (ssW s t a n c a2 n2 c2) (ffW s t L M a n c a2 n2 c2 h w0) lsW muW _ _=J;refine ga env (FrH.frm h w0 _ 2 hh) aA ?_ rfl hk;exact aZ hJ.symm (fun X=>W8.z true a1 c1 L1 a3 c3 L3 X) (lvW s t a n c a2 n2 c2 (.c a1 c1 L1 a3 c3 L3) (lvB true true)) 106 id (fun _ _=>rfl) (fun B=>by repeat (first|exact trivial|refine⟨rfl,?_⟩)) (fun _ _ F _=>F)
theorem zS {s t:bU}{L M:List (aL × aT)}{a:Option Addr}{n c:Nat}{a2:Option Addr}{n2 c2:Nat}{w0:World}{k:List KF}{R0:Ending->World->Prop}{fn:Func}(hk:plK aA k=true)(X:Nat->Value)
  (h:∀(a1:Option Addr) (c1:Nat) (L1:List (aL × aT)) (a3:Option Addr) (c3:Nat) (L3:List (aL × aT)) (X:Nat->Value),Ok Tryz.prog (bodyPost Tryz.prog fn R0) (Fe 4 (fun u=>Below w0.heap.size w0 u/\aN u t L3 a3 n2 c3/\aN u s L1 a1 n c1/\aN u s L a n c/\aN u t M a2 n2 c2)) (.ex .n) (ssW s t a n c a2 n2 c2 (.z true a1 c1 L1 a3 c3 L3 X)) k) :
  bE Tryz.prog (bodyPost Tryz.prog fn R0) (fun w K=>Fr (fun _=>False) w0 w K (fun u=>aN u s L a n c/\aN u t M a2 n2 c2)) ⟨false,0⟩ (.at (.code (.region 3 (bK 3 Tryz.f5).toArray true)) ⟨mkT X [(2,.p 0 0),(3,.p 1 0),(4,.b (.l false))] 0 106,[bH s a n c,bH t a2 n2 c2]⟩ k):=by
 refine wT (n:=6) (L:=#[true,false,true,false,false,false,false,false]) env (Fr.frm _ _ _) [0,1,0,7,0,0,63,127] [0,2] 2 (fun _=>True) (fun _ _ _=>trivial) (fun _ _ _=>trivial) ?_;refine cV (env (fn:=fn) (R:=R0)).tt ?_;refine⟨rfl,?_⟩;intro B w F S hS;refine uL (lv:=lvW s t a n c a2 n2 c2 .a (lvB false false)) (m:=106) (bx:=[bH s a n c,bH t a2 n2 c2]) (by repeat (first|exact trivial|refine⟨rfl,?_⟩)) ?_;intro X;refine qW (ssW s t a n c a2 n2 c2) (ffW s t L M a n c a2 n2 c2 (mkB B 0 [bH s a n c,bH t a2 n2 c2]) w0) lsW muW ?_ ?_ ?_ 6 (.n .a false false X) B w rfl ⟨F,rfl⟩
 ·intro i v K hF;cases i
  ·exact hS v (FrH.heads hF) trivial
  ·exact hS v (FrH.heads hF) trivial
 ·intro i hi;cases i with
  | n p x y X =>
   refine absurd hi ?_;show phN p+(b1N x+(b1N y+2))≠0;omega
  | z o a1 c1 L1 a3 c3 L3 X =>
   cases o
   ·cases hi
   ·exact⟨by kernel_rfl,fun B w F=>h a1 c1 L1 a3 c3 L3 X B w (Fr.aOP F.1 4 rfl)⟩
 ·intro i m hm;cases i with
  | n p x y X =>
   cases p with
   | a  =>
    cases x<;>cases y
    ·exact aL9 hk _ rfl  X m hm
    ·exact aKt hk _ rfl  X m hm
    ·exact aKs hk _ rfl  X m hm
    ·exact aI8 hk _ rfl  X m hm
   | b a1 c1 L1 =>
    cases x<;>cases y
    ·exact aMa hk _ rfl a1 c1 L1 X m hm
    ·exact aKv hk _ rfl a1 c1 L1 X m hm
    ·exact aKu hk _ rfl a1 c1 L1 X m hm
    ·exact aI9 hk _ rfl a1 c1 L1 X m hm
   | c a1 c1 L1 a3 c3 L3 =>
    cases x<;>cases y
    ·exact aMb hk _ rfl a1 c1 L1 a3 c3 L3 X m hm
    ·exact aKx hk _ rfl a1 c1 L1 a3 c3 L3 X m hm
    ·exact aKw hk _ rfl a1 c1 L1 a3 c3 L3 X m hm
    ·exact aJa hk _ rfl a1 c1 L1 a3 c3 L3 X m hm
  | z o a1 c1 L1 a3 c3 L3 X =>
   cases o
   ·exact aMc hk _ rfl a1 c1 L1 a3 c3 L3 X m hm
   ·cases hm
end Go.Proofs.YtgeihgombjbkbaaGreat
namespace Go.Proofs.Own
open Go Go.RowKit
def FeH (h:Bx)(n:Nat)(R:World->Prop)(w:World)(K:Bx):Prop:=Fe n R w K/\K.take h.length=h
theorem FeH.frm (h:Bx)(n:Nat)(R:World->Prop)(hn:h.length=n):Frm (FeH h n R) ⟨false,n⟩:=by
 subst hn;have b:=Fe.frm h.length R;refine⟨fun F i p e=>b.box F.1 e,fun {w K} F {i b' o c vs} hi hl h8 hr=>⟨b.set F.1 hi hl h8 hr,?_⟩,fun {w K} F {c t} h8=>⟨b.new F.1 h8,?_⟩,fun F=>⟨b.drew F.1,F.2⟩⟩
 ·have hr:h.length<=i:=hr;rw[List.take_set,List.set_eq_of_length_le (by rw[List.length_take];omega)];exact F.2
 ·have h1:=congrArg List.length F.2;rw[List.length_take]at h1;rw[List.take_append_of_le_length (by omega)];exact F.2
theorem FeH.heads {B:Nat->Nat}{bx:List (List AV)}{n:Nat}{w:World}{R:World->Prop}{K:Bx}(F:FeH (mkB B 0 bx) n R w K):∀(i:Nat) c,bx[i]? = some c->Box w (B i,AV.denL B c):=fun i c hi=>by
 refine(Fe.frm n R).box F.1 (i:=i) ?_;have h1:(mkB B 0 bx)[i]? = some (B i,AV.denL B c):=by rw[fJ,hi,Nat.zero_add];rfl
 rw[<- F.2]at h1;rw[List.getElem?_take]at h1;split at h1
 ·exact h1
 ·cases h1
section
variable {P:Program} {Q:Exit->Act->World->Prop} {tt:TypeId->Option TI} {fs:FuncId->Bool} {k8:KB} {F:World->Bx->Prop} {s:St} {k:List KF} {l:List Oper} {M:List Nat} {J:Nat} {S:World->Prop}
theorem qX {ι:Type}(ss:ι->St)(FF:ι->World->Bx->Prop)(Ls:ι->Array Bool)(μ:ι->Nat)(n0:Nat)(hS:∀i w L,FF i w L->S w)
  (h0:∀i,μ i=0 -> ∀B w,FF i w (mkB B 0 (ss i).bx)->Rest P l.toArray M J S (semK P Q k) n0 (Ls i) ((ss i).act B) w)
  (h1:∀i n,μ i=n+1->Region.ready .any l.toArray (Ls i) ≠ [] /\ ∀j ∈ Region.ready .any l.toArray (Ls i),Ok P Q (FF i) (.pl l 0 [] [] false [.o j]) (ss i) (.inv (WJ ss FF Ls μ ((Ls i).setIfInBounds j true) n)::k)) :
  ∀n i B w,μ i=n->FF i w (mkB B 0 (ss i).bx)->Rest P l.toArray M J S (semK P Q k) (n0+n) (Ls i) ((ss i).act B) w
 | 0,i,B,w,hi,H=>h0 i hi B w H
 | n+1,i,B,w,hi,H=>by
  obtain⟨g1,g2⟩:=h1 i n hi;refine qR (f:=n0+n) g1 fun j hj=>?_;have h:=g2 j hj B w H S (fun e=>by cases e);have hm:∀e a' w',eY 0 S (semK P Q (.inv (WJ ss FF Ls μ ((Ls i).setIfInBounds j true) n)::k)) j (wpPlan P l 0 S (semK P Q (.inv (WJ ss FF Ls μ ((Ls i).setIfInBounds j true) n)::k)) []) e a' w'->dF P l.toArray M J S (semK P Q k) (n0+n) ((Ls i).setIfInBounds j true) j e a' w':=by
   intro e a' w' h;cases e
   case normal =>
    obtain⟨i',B',e1,e2,rfl,h3⟩:=h.2;refine cS (fun _=>hS _ _ _ h3) ?_;rw[<- e1];exact qX ss FF Ls μ n0 hS h0 h1 n i' B' w' e2 h3
   all_goals exact h
  obtain⟨o,_,hp⟩:=lW (l:=l) hj;unfold wpPlan at h;rw[hp]at h ⊢;unfold wpList at h ⊢;split
  ·rename_i hw;rw[if_pos hw]at h;have hl:LetsOut (eY 0 S (semK P Q (.inv (WJ ss FF Ls μ ((Ls i).setIfInBounds j true) n)::k)) j (wpPlan P l 0 S (semK P Q (.inv (WJ ss FF Ls μ ((Ls i).setIfInBounds j true) n)::k)) []))->LetsOut (dF P l.toArray M J S (semK P Q k) (n0+n) ((Ls i).setIfInBounds j true) j):=fun ⟨a',w',h⟩=>⟨a',w',hm _ _ _ h⟩;exact h.imp (Oper.pE (fun a' w' h2=>hm .normal a' w' h2) (fun c a' w' h2=>hm (.panic c) a' w' h2) hl) fun h1=>⟨h1.1,hl h1.2⟩
  ·rename_i hw;rw[if_neg hw]at h;exact hm .normal _ _ h
theorem sU {ops:Array Oper}{Q:Exit->Act->World->Prop}{S S':World->Prop}(h:∀w,S' w->S w):∀f listed a w,wpAnyS P ops Q S' J f listed a w->wpAnyS P ops Q S J f listed a w
 | 0,_,_,_,k=>k
 | f+1,_,_,_,k=>⟨k.1,fun i hi=>wpOp_mono (fun a' w' h'=>⟨fun hj=>h _ (h'.1 hj),sU h f _ a' w' h'.2⟩) (k.2 i hi)⟩
theorem zA {ops:Array Oper}{Q:Exit->Act->World->Prop}{f:Nat}{listed:Array Bool}{a:Act}{w:World}{S:World->Prop}(S':World->Prop)(h:∀w,S' w->S w)(k:Rest P ops M J S' Q f listed a w):Rest P ops M J S Q f listed a w :=
 ⟨fun hc=>sU h _ _ _ _ (k.out hc)⟩
theorem aKk (E:Env P Q tt fs)(st:List Stg){L:Array Bool}(hp:(Region.noSelect l.toArray&&maskOk l.toArray M&&planB l M J st L)=true){B:Nat->Nat}{w:World}(h:Ok P Q F (.pl l J [] s.bx true st) s k)(hS:∀v,(∀(i:Nat) c,s.bx[i]? = some c->Box v (B i,AV.denL B c))->S v)(H:F w (mkB B 0 s.bx)):Rest P l.toArray M J S (semK P Q k) (planN st) L (s.act B) w:=by
 rw[Bool.and_eq_true]at hp;refine zA (Bxs B [] s.bx) (fun v hv=>hS v fun i c hi=>hv i c hi rfl) (gQ hp.1 (hP E.pan k) (fun v o hv i c hi hm=>(hv i c hi hm).kept (Kept.alloc v o (fun _=>False)) (fun h=>h)) st L _ w hp.2 (h B w H _ fun _=>⟨rfl,fun i c hi _=>hi⟩))
end
end Go.Proofs.Own
namespace Go.Proofs.YtgeihgombjbkbaaGreat
open Go Go.RowKit Go.Maps Go.Proofs.Own
theorem kT (l:List Nat)(a:Option Addr)(c:Nat)(w:World)(hB:Bytes w (.slice a l.length c) l)(hlen:l.length<=100000):Calls Tryz.prog 18 #[.slice a l.length c] w fun e w'=>∃a' c',e = .returned (.slice a' (frP 6 l).length c')/\Bytes w' (.slice a' (frP 6 l).length c') (frP 6 l)/\Below w.heap.size w w':=by
 have F0:Fe 0 (fun v=>Below w.heap.size w v/\Bytes v (.slice a l.length c) l) w []:=Fe.start fun _ bv=>⟨bv,hB.below bv⟩;refine enter (fun _=>0) [.sl (fun _=>a) (fun _=>l.length) (fun _=>c)] [] Tryz.func18 rfl rfl F0 4 rfl ?_;refine ga env (Fe.frm 0 _) aA ?_;intro B v F;refine(wG 6 _ l v F.now.2 (by decide) hlen).mono ?_;rintro e w2 ⟨v6,rfl,hb,hbw,_⟩;obtain⟨a',c',rfl,_⟩:=hb.shape;refine⟨.sl (fun _=>a') (fun _=>(frP 6 l).length) (fun _=>c'),_,rfl,(Fe.frm 0 _).b,F.step hbw (Z:=fun v=>Bytes v (.slice a' (frP 6 l).length c') (frP 6 l)) (fun v bv=>hb.below bv),?_⟩;clear F hbw hb;refine ga env (Fe.frm 0 _) aA ?_;refine fa env (Fe.frm 0 _) ?_;intro B v F;exact⟨a',c',rfl,F.now.1,F.now.2.1⟩
inductive Pt where
 | a
 | b (a6:Option Addr) (c6:Nat)
 | c (a6:Option Addr) (c6:Nat)
structure V8 where
 p:Pt
 x:Bool
 X:Nat->Value
section
variable (s t:bU) (a:Option Addr) (n c:Nat) (a2:Option Addr) (n2 c2:Nat) (a1:Option Addr) (c1:Nat) (a3:Option Addr) (c3:Nat) (a7:Option Addr) (n7 c7:Nat) (fl W:List Nat) (a8:Option Addr) (c8:Nat) (a9:Option Addr) (c9:Nat) (h:Bx) (R0:World->Prop)
def rD:List (List AV):=[bH s a n c,bH t a2 n2 c2,bH s a1 n c1,bH t a3 n2 c3,bH s a7 n7 c7]
def aLP:List (Nat × AV):=[(5,.p 2 0),(7,.sl (fun _=>a8) (fun _=>fl.length) (fun _=>c8)),(8,.i .i64 (.l 0)),(9,.sl (fun _=>a9) (fun _=>W.length) (fun _=>c9)),(10,.p 4 0),(11,.i .i64 (.l 0))]
def lvV (p:Pt)(x:Bool):List (Nat × AV):=aLP fl W a8 c8 a9 c9++([(83,.i .i64 (.l 0)),(84,.b (.l true)),(85,.b (.l true)),(86,.sl (fun _=>a8) (fun _=>fl.length) (fun _=>c8)),(88,.sl (fun _=>a9) (fun _=>W.length) (fun _=>c9))]++((match x with
  | true=>[(87,.st fun _=>eS fl)]
  | false=>[])++(match p with
  | .a=>[]
  | .b a6 c6=>[(89,.sl (fun _=>a6) (fun _=>fl.length) (fun _=>c6))]
  | .c a6 c6=>[(89,.sl (fun _=>a6) (fun _=>fl.length) (fun _=>c6)),(90,.st fun _=>eS fl)])))
def ssV (i:V8):St:=⟨mkT i.X (lvV fl W a8 c8 a9 c9 i.p i.x) 0 106,rD s t a n c a2 n2 c2 a1 c1 a3 c3 a7 n7 c7⟩
def rV:Pt->World->Prop
 | .a,u=>Bytes u (.slice a8 fl.length c8) fl/\Bytes u (.slice a9 W.length c9) W/\R0 u
 | .b a6 c6,u=>Bytes u (.slice a6 fl.length c6) fl/\Bytes u (.slice a8 fl.length c8) fl/\Bytes u (.slice a9 W.length c9) W/\R0 u
 | .c a6 c6,u=>Bytes u (.slice a6 fl.length c6) fl/\Bytes u (.slice a8 fl.length c8) fl/\Bytes u (.slice a9 W.length c9) W/\R0 u
def ffV (i:V8):World->Bx->Prop:=FeH h 5 (rV fl W a8 c8 a9 c9 R0 i.p)
def ptN:Pt->Nat
 | .a=>2
 | .b _ _=>1
 | .c _ _=>0
def ptB:Pt->Bool × Bool
 | .a=>(false,false)
 | .b _ _=>(true,false)
 | .c _ _=>(true,true)
def lsV (i:V8):Array Bool:=#[true,true,true,true,i.x,true,(ptB i.p).1,(ptB i.p).2,false,false,false,false,false,false,false,false,false,false,false,false,false,false,false,false]
def muV (i:V8):Nat:=ptN i.p+b1N i.x
end
theorem aMR {s t:bU}{a:Option Addr}{n c:Nat}{a2:Option Addr}{n2 c2:Nat}{a1:Option Addr}{c1:Nat}{a3:Option Addr}{c3:Nat}{a7:Option Addr}{n7 c7:Nat}{fl W:List Nat}{a8:Option Addr}{c8:Nat}{a9:Option Addr}{c9:Nat}{R0:World->Prop}{k:List KF}{Rp:Ending->World->Prop}{fn:Func}(hk:plK aA k=true)(h:Bx)(hh:h.length=5)(hFl:frP 6 W=fl)(hw:W.length<=65536)(X:Nat->Value)(m:Nat)(hm:muV ⟨Pt.a,false,X⟩=m+1):Region.ready .any (bK 13 Tryz.f5).toArray (lsV ⟨Pt.a,false,X⟩) ≠ [] /\ ∀j ∈ Region.ready .any (bK 13 Tryz.f5).toArray (lsV ⟨Pt.a,false,X⟩),Ok Tryz.prog (bodyPost Tryz.prog fn Rp) (ffV fl W a8 c8 a9 c9 h R0 ⟨Pt.a,false,X⟩) (.pl (bK 13 Tryz.f5) 0 [] [] false [.o j]) (ssV s t a n c a2 n2 c2 a1 c1 a3 c3 a7 n7 c7 fl W a8 c8 a9 c9 ⟨Pt.a,false,X⟩) (.inv (WJ (ssV s t a n c a2 n2 c2 a1 c1 a3 c3 a7 n7 c7 fl W a8 c8 a9 c9) (ffV fl W a8 c8 a9 c9 h R0) lsV muV ((lsV ⟨Pt.a,false,X⟩).setIfInBounds j true) m)::k):=by
 cases Nat.succ.inj hm;have e:Region.ready .any (bK 13 Tryz.f5).toArray (lsV ⟨Pt.a,false,X⟩) = [4,6]:=by kernel_rfl
 rw[e];refine⟨nofun,?_⟩;refine told (fun l=>∀j ∈ [4,6],Ok Tryz.prog (bodyPost Tryz.prog fn Rp) (ffV fl W a8 c8 a9 c9 h R0 ⟨Pt.a,false,X⟩) (.pl l 0 [] [] false [.o j]) (ssV s t a n c a2 n2 c2 a1 c1 a3 c3 a7 n7 c7 fl W a8 c8 a9 c9 ⟨Pt.a,false,X⟩) (.inv (WJ (ssV s t a n c a2 n2 c2 a1 c1 a3 c3 a7 n7 c7 fl W a8 c8 a9 c9) (ffV fl W a8 c8 a9 c9 h R0) lsV muV ((lsV ⟨Pt.a,false,X⟩).setIfInBounds j true) _)::k)) ?_;intro j hj;simp only[List.mem_cons,List.not_mem_nil,or_false]at hj;rcases hj with rfl|rfl
 ·generalize hJ:WJ (ssV s t a n c a2 n2 c2 a1 c1 a3 c3 a7 n7 c7 fl W a8 c8 a9 c9) (ffV fl W a8 c8 a9 c9 h R0) lsV muV _ _=J;refine ga env (FeH.frm h 5 _ hh) aA ?_ rfl hk;refine aAp (FeH.frm h 5 _ hh) (.st fun _=>eS fl) ?_ ?_
  ·exact fun B u F=>iD rfl (by rw[St.aB];rfl) F.1.now.1
  refine ga env (FeH.frm h 5 _ hh) aA ?_ rfl hk;exact aZ hJ.symm (fun X=>⟨Pt.a,true,X⟩) (lvV fl W a8 c8 a9 c9 Pt.a true) 106 id (fun _ _=>rfl) (fun B=>by repeat (first|exact trivial|refine⟨rfl,?_⟩)) (fun _ _ F _=>F)
 ·generalize hJ:WJ (ssV s t a n c a2 n2 c2 a1 c1 a3 c3 a7 n7 c7 fl W a8 c8 a9 c9) (ffV fl W a8 c8 a9 c9 h R0) lsV muV _ _=J;refine ga env (FeH.frm h 5 _ hh) aA ?_ rfl hk;intro B v F;refine(kT W a9 c9 v F.1.now.2.1 (by omega)).mono ?_;rw[hFl];rintro e w2 ⟨a6,c6,rfl,hb6,hbw⟩;refine⟨.sl (fun _=>a6) (fun _=>fl.length) (fun _=>c6),FeH h 5 (rV fl W a8 c8 a9 c9 R0 (.b a6 c6)),rfl,(FeH.frm h 5 _ hh).b,⟨F.1.step hbw (Z:=fun v=>Bytes v (.slice a6 fl.length c6) fl) (fun v bv=>hb6.below bv),F.2⟩,?_⟩;clear F hbw hb6;refine ga env (FeH.frm h 5 _ hh) aA ?_ rfl hk;exact aZ hJ.symm (fun X=>⟨(Pt.b a6 c6),false,X⟩) (lvV fl W a8 c8 a9 c9 (Pt.b a6 c6) false) 106 id (fun _ _=>rfl) (fun B=>by repeat (first|exact trivial|refine⟨rfl,?_⟩)) (fun _ _ F _=>F)
theorem aL6 {s t:bU}{a:Option Addr}{n c:Nat}{a2:Option Addr}{n2 c2:Nat}{a1:Option Addr}{c1:Nat}{a3:Option Addr}{c3:Nat}{a7:Option Addr}{n7 c7:Nat}{fl W:List Nat}{a8:Option Addr}{c8:Nat}{a9:Option Addr}{c9:Nat}{R0:World->Prop}{k:List KF}{Rp:Ending->World->Prop}{fn:Func}(hk:plK aA k=true)(h:Bx)(hh:h.length=5)(hFl:frP 6 W=fl)(hw:W.length<=65536)(X:Nat->Value)(m:Nat)(hm:muV ⟨Pt.a,true,X⟩=m+1):Region.ready .any (bK 13 Tryz.f5).toArray (lsV ⟨Pt.a,true,X⟩) ≠ [] /\ ∀j ∈ Region.ready .any (bK 13 Tryz.f5).toArray (lsV ⟨Pt.a,true,X⟩),Ok Tryz.prog (bodyPost Tryz.prog fn Rp) (ffV fl W a8 c8 a9 c9 h R0 ⟨Pt.a,true,X⟩) (.pl (bK 13 Tryz.f5) 0 [] [] false [.o j]) (ssV s t a n c a2 n2 c2 a1 c1 a3 c3 a7 n7 c7 fl W a8 c8 a9 c9 ⟨Pt.a,true,X⟩) (.inv (WJ (ssV s t a n c a2 n2 c2 a1 c1 a3 c3 a7 n7 c7 fl W a8 c8 a9 c9) (ffV fl W a8 c8 a9 c9 h R0) lsV muV ((lsV ⟨Pt.a,true,X⟩).setIfInBounds j true) m)::k):=by
 cases Nat.succ.inj hm;have e:Region.ready .any (bK 13 Tryz.f5).toArray (lsV ⟨Pt.a,true,X⟩) = [6]:=by kernel_rfl
 rw[e];refine⟨nofun,?_⟩;refine told (fun l=>∀j ∈ [6],Ok Tryz.prog (bodyPost Tryz.prog fn Rp) (ffV fl W a8 c8 a9 c9 h R0 ⟨Pt.a,true,X⟩) (.pl l 0 [] [] false [.o j]) (ssV s t a n c a2 n2 c2 a1 c1 a3 c3 a7 n7 c7 fl W a8 c8 a9 c9 ⟨Pt.a,true,X⟩) (.inv (WJ (ssV s t a n c a2 n2 c2 a1 c1 a3 c3 a7 n7 c7 fl W a8 c8 a9 c9) (ffV fl W a8 c8 a9 c9 h R0) lsV muV ((lsV ⟨Pt.a,true,X⟩).setIfInBounds j true) _)::k)) ?_;intro j hj;simp only[List.mem_cons,List.not_mem_nil,or_false]at hj;subst hj;generalize hJ:WJ (ssV s t a n c a2 n2 c2 a1 c1 a3 c3 a7 n7 c7 fl W a8 c8 a9 c9) (ffV fl W a8 c8 a9 c9 h R0) lsV muV _ _=J;refine ga env (FeH.frm h 5 _ hh) aA ?_ rfl hk;intro B v F;refine(kT W a9 c9 v F.1.now.2.1 (by omega)).mono ?_;rw[hFl];rintro e w2 ⟨a6,c6,rfl,hb6,hbw⟩;refine⟨.sl (fun _=>a6) (fun _=>fl.length) (fun _=>c6),FeH h 5 (rV fl W a8 c8 a9 c9 R0 (.b a6 c6)),rfl,(FeH.frm h 5 _ hh).b,⟨F.1.step hbw (Z:=fun v=>Bytes v (.slice a6 fl.length c6) fl) (fun v bv=>hb6.below bv),F.2⟩,?_⟩;clear F hbw hb6;refine ga env (FeH.frm h 5 _ hh) aA ?_ rfl hk;exact aZ hJ.symm (fun X=>⟨(Pt.b a6 c6),true,X⟩) (lvV fl W a8 c8 a9 c9 (Pt.b a6 c6) true) 106 id (fun _ _=>rfl) (fun B=>by repeat (first|exact trivial|refine⟨rfl,?_⟩)) (fun _ _ F _=>F)
theorem aMS {s t:bU}{a:Option Addr}{n c:Nat}{a2:Option Addr}{n2 c2:Nat}{a1:Option Addr}{c1:Nat}{a3:Option Addr}{c3:Nat}{a7:Option Addr}{n7 c7:Nat}{fl W:List Nat}{a8:Option Addr}{c8:Nat}{a9:Option Addr}{c9:Nat}{R0:World->Prop}{k:List KF}{Rp:Ending->World->Prop}{fn:Func}(hk:plK aA k=true)(h:Bx)(hh:h.length=5)  (a6:Option Addr) (c6:Nat) (X:Nat->Value) (m:Nat) (hm:muV ⟨(Pt.b a6 c6),false,X⟩=m+1):Region.ready .any (bK 13 Tryz.f5).toArray (lsV ⟨(Pt.b a6 c6),false,X⟩) ≠ [] /\ ∀j ∈ Region.ready .any (bK 13 Tryz.f5).toArray (lsV ⟨(Pt.b a6 c6),false,X⟩),Ok Tryz.prog (bodyPost Tryz.prog fn Rp) (ffV fl W a8 c8 a9 c9 h R0 ⟨(Pt.b a6 c6),false,X⟩) (.pl (bK 13 Tryz.f5) 0 [] [] false [.o j]) (ssV s t a n c a2 n2 c2 a1 c1 a3 c3 a7 n7 c7 fl W a8 c8 a9 c9 ⟨(Pt.b a6 c6),false,X⟩) (.inv (WJ (ssV s t a n c a2 n2 c2 a1 c1 a3 c3 a7 n7 c7 fl W a8 c8 a9 c9) (ffV fl W a8 c8 a9 c9 h R0) lsV muV ((lsV ⟨(Pt.b a6 c6),false,X⟩).setIfInBounds j true) m)::k):=by
 cases Nat.succ.inj hm;have e:Region.ready .any (bK 13 Tryz.f5).toArray (lsV ⟨(Pt.b a6 c6),false,X⟩) = [4,7]:=by kernel_rfl
 rw[e];refine⟨nofun,?_⟩;refine told (fun l=>∀j ∈ [4,7],Ok Tryz.prog (bodyPost Tryz.prog fn Rp) (ffV fl W a8 c8 a9 c9 h R0 ⟨(Pt.b a6 c6),false,X⟩) (.pl l 0 [] [] false [.o j]) (ssV s t a n c a2 n2 c2 a1 c1 a3 c3 a7 n7 c7 fl W a8 c8 a9 c9 ⟨(Pt.b a6 c6),false,X⟩) (.inv (WJ (ssV s t a n c a2 n2 c2 a1 c1 a3 c3 a7 n7 c7 fl W a8 c8 a9 c9) (ffV fl W a8 c8 a9 c9 h R0) lsV muV ((lsV ⟨(Pt.b a6 c6),false,X⟩).setIfInBounds j true) _)::k)) ?_;intro j hj;simp only[List.mem_cons,List.not_mem_nil,or_false]at hj;rcases hj with rfl|rfl
 ·generalize hJ:WJ (ssV s t a n c a2 n2 c2 a1 c1 a3 c3 a7 n7 c7 fl W a8 c8 a9 c9) (ffV fl W a8 c8 a9 c9 h R0) lsV muV _ _=J;refine ga env (FeH.frm h 5 _ hh) aA ?_ rfl hk;refine aAp (FeH.frm h 5 _ hh) (.st fun _=>eS fl) ?_ ?_
  ·exact fun B u F=>iD rfl (by rw[St.aB];rfl) F.1.now.2.1
  refine ga env (FeH.frm h 5 _ hh) aA ?_ rfl hk;exact aZ hJ.symm (fun X=>⟨(Pt.b a6 c6),true,X⟩) (lvV fl W a8 c8 a9 c9 (Pt.b a6 c6) true) 106 id (fun _ _=>rfl) (fun B=>by repeat (first|exact trivial|refine⟨rfl,?_⟩)) (fun _ _ F _=>F)
 ·generalize hJ:WJ (ssV s t a n c a2 n2 c2 a1 c1 a3 c3 a7 n7 c7 fl W a8 c8 a9 c9) (ffV fl W a8 c8 a9 c9 h R0) lsV muV _ _=J;refine ga env (FeH.frm h 5 _ hh) aA ?_ rfl hk;refine aAp (FeH.frm h 5 _ hh) (.st fun _=>eS fl) ?_ ?_
  ·exact fun B u F=>iD rfl (by rw[St.aB];rfl) F.1.now.1
  refine ga env (FeH.frm h 5 _ hh) aA ?_ rfl hk;exact aZ hJ.symm (fun X=>⟨(Pt.c a6 c6),false,X⟩) (lvV fl W a8 c8 a9 c9 (Pt.c a6 c6) false) 106 id (fun _ _=>rfl) (fun B=>by repeat (first|exact trivial|refine⟨rfl,?_⟩)) (fun _ _ F _=>F)
theorem aL7 {s t:bU}{a:Option Addr}{n c:Nat}{a2:Option Addr}{n2 c2:Nat}{a1:Option Addr}{c1:Nat}{a3:Option Addr}{c3:Nat}{a7:Option Addr}{n7 c7:Nat}{fl W:List Nat}{a8:Option Addr}{c8:Nat}{a9:Option Addr}{c9:Nat}{R0:World->Prop}{k:List KF}{Rp:Ending->World->Prop}{fn:Func}(hk:plK aA k=true)(h:Bx)(hh:h.length=5)  (a6:Option Addr) (c6:Nat) (X:Nat->Value) (m:Nat) (hm:muV ⟨(Pt.b a6 c6),true,X⟩=m+1):Region.ready .any (bK 13 Tryz.f5).toArray (lsV ⟨(Pt.b a6 c6),true,X⟩) ≠ [] /\ ∀j ∈ Region.ready .any (bK 13 Tryz.f5).toArray (lsV ⟨(Pt.b a6 c6),true,X⟩),Ok Tryz.prog (bodyPost Tryz.prog fn Rp) (ffV fl W a8 c8 a9 c9 h R0 ⟨(Pt.b a6 c6),true,X⟩) (.pl (bK 13 Tryz.f5) 0 [] [] false [.o j]) (ssV s t a n c a2 n2 c2 a1 c1 a3 c3 a7 n7 c7 fl W a8 c8 a9 c9 ⟨(Pt.b a6 c6),true,X⟩) (.inv (WJ (ssV s t a n c a2 n2 c2 a1 c1 a3 c3 a7 n7 c7 fl W a8 c8 a9 c9) (ffV fl W a8 c8 a9 c9 h R0) lsV muV ((lsV ⟨(Pt.b a6 c6),true,X⟩).setIfInBounds j true) m)::k):=by
 cases Nat.succ.inj hm;have e:Region.ready .any (bK 13 Tryz.f5).toArray (lsV ⟨(Pt.b a6 c6),true,X⟩) = [7]:=by kernel_rfl
 rw[e];refine⟨nofun,?_⟩;refine told (fun l=>∀j ∈ [7],Ok Tryz.prog (bodyPost Tryz.prog fn Rp) (ffV fl W a8 c8 a9 c9 h R0 ⟨(Pt.b a6 c6),true,X⟩) (.pl l 0 [] [] false [.o j]) (ssV s t a n c a2 n2 c2 a1 c1 a3 c3 a7 n7 c7 fl W a8 c8 a9 c9 ⟨(Pt.b a6 c6),true,X⟩) (.inv (WJ (ssV s t a n c a2 n2 c2 a1 c1 a3 c3 a7 n7 c7 fl W a8 c8 a9 c9) (ffV fl W a8 c8 a9 c9 h R0) lsV muV ((lsV ⟨(Pt.b a6 c6),true,X⟩).setIfInBounds j true) _)::k)) ?_;intro j hj;simp only[List.mem_cons,List.not_mem_nil,or_false]at hj;subst hj;generalize hJ:WJ (ssV s t a n c a2 n2 c2 a1 c1 a3 c3 a7 n7 c7 fl W a8 c8 a9 c9) (ffV fl W a8 c8 a9 c9 h R0) lsV muV _ _=J;refine ga env (FeH.frm h 5 _ hh) aA ?_ rfl hk;refine aAp (FeH.frm h 5 _ hh) (.st fun _=>eS fl) ?_ ?_
 ·exact fun B u F=>iD rfl (by rw[St.aB];rfl) F.1.now.1
 refine ga env (FeH.frm h 5 _ hh) aA ?_ rfl hk;exact aZ hJ.symm (fun X=>⟨(Pt.c a6 c6),true,X⟩) (lvV fl W a8 c8 a9 c9 (Pt.c a6 c6) true) 106 id (fun _ _=>rfl) (fun B=>by repeat (first|exact trivial|refine⟨rfl,?_⟩)) (fun _ _ F _=>F)
theorem aMT {s t:bU}{a:Option Addr}{n c:Nat}{a2:Option Addr}{n2 c2:Nat}{a1:Option Addr}{c1:Nat}{a3:Option Addr}{c3:Nat}{a7:Option Addr}{n7 c7:Nat}{fl W:List Nat}{a8:Option Addr}{c8:Nat}{a9:Option Addr}{c9:Nat}{R0:World->Prop}{k:List KF}{Rp:Ending->World->Prop}{fn:Func}(hk:plK aA k=true)(h:Bx)(hh:h.length=5)  (a6:Option Addr) (c6:Nat) (X:Nat->Value) (m:Nat) (hm:muV ⟨(Pt.c a6 c6),false,X⟩=m+1):Region.ready .any (bK 13 Tryz.f5).toArray (lsV ⟨(Pt.c a6 c6),false,X⟩) ≠ [] /\ ∀j ∈ Region.ready .any (bK 13 Tryz.f5).toArray (lsV ⟨(Pt.c a6 c6),false,X⟩),Ok Tryz.prog (bodyPost Tryz.prog fn Rp) (ffV fl W a8 c8 a9 c9 h R0 ⟨(Pt.c a6 c6),false,X⟩) (.pl (bK 13 Tryz.f5) 0 [] [] false [.o j]) (ssV s t a n c a2 n2 c2 a1 c1 a3 c3 a7 n7 c7 fl W a8 c8 a9 c9 ⟨(Pt.c a6 c6),false,X⟩) (.inv (WJ (ssV s t a n c a2 n2 c2 a1 c1 a3 c3 a7 n7 c7 fl W a8 c8 a9 c9) (ffV fl W a8 c8 a9 c9 h R0) lsV muV ((lsV ⟨(Pt.c a6 c6),false,X⟩).setIfInBounds j true) m)::k):=by
 cases Nat.succ.inj hm;have e:Region.ready .any (bK 13 Tryz.f5).toArray (lsV ⟨(Pt.c a6 c6),false,X⟩) = [4]:=by kernel_rfl
 rw[e];refine⟨nofun,?_⟩;refine told (fun l=>∀j ∈ [4],Ok Tryz.prog (bodyPost Tryz.prog fn Rp) (ffV fl W a8 c8 a9 c9 h R0 ⟨(Pt.c a6 c6),false,X⟩) (.pl l 0 [] [] false [.o j]) (ssV s t a n c a2 n2 c2 a1 c1 a3 c3 a7 n7 c7 fl W a8 c8 a9 c9 ⟨(Pt.c a6 c6),false,X⟩) (.inv (WJ (ssV s t a n c a2 n2 c2 a1 c1 a3 c3 a7 n7 c7 fl W a8 c8 a9 c9) (ffV fl W a8 c8 a9 c9 h R0) lsV muV ((lsV ⟨(Pt.c a6 c6),false,X⟩).setIfInBounds j true) _)::k)) ?_;intro j hj;simp only[List.mem_cons,List.not_mem_nil,or_false]at hj;subst hj;generalize hJ:WJ (ssV s t a n c a2 n2 c2 a1 c1 a3 c3 a7 n7 c7 fl W a8 c8 a9 c9) (ffV fl W a8 c8 a9 c9 h R0) lsV muV _ _=J;refine ga env (FeH.frm h 5 _ hh) aA ?_ rfl hk;refine aAp (FeH.frm h 5 _ hh) (.st fun _=>eS fl) ?_ ?_
 ·exact fun B u F=>iD rfl (by rw[St.aB];rfl) F.1.now.2.1
 refine ga env (FeH.frm h 5 _ hh) aA ?_ rfl hk;exact aZ hJ.symm (fun X=>⟨(Pt.c a6 c6),true,X⟩) (lvV fl W a8 c8 a9 c9 (Pt.c a6 c6) true) 106 id (fun _ _=>rfl) (fun B=>by repeat (first|exact trivial|refine⟨rfl,?_⟩)) (fun _ _ F _=>F)
theorem zR {s t:bU}{a:Option Addr}{n c:Nat}{a2:Option Addr}{n2 c2:Nat}{a1:Option Addr}{c1:Nat}{a3:Option Addr}{c3:Nat}{a7:Option Addr}{n7 c7:Nat}{fl W:List Nat}{a8:Option Addr}{c8:Nat}{a9:Option Addr}{c9:Nat}{R0:World->Prop}{k:List KF}{Rp:Ending->World->Prop}{fn:Func}(hk:plK aA k=true)(hFl:frP 6 W=fl)(hw:W.length<=65536)(X:Nat->Value)
  (h:∀(a6:Option Addr) (c6:Nat) (X:Nat->Value),Ok Tryz.prog (bodyPost Tryz.prog fn Rp) (Fe 5 (rV fl W a8 c8 a9 c9 R0 (.c a6 c6))) (.pl (bK 13 Tryz.f5) 229568 [] (rD s t a n c a2 n2 c2 a1 c1 a3 c3 a7 n7 c7) true [.h [8,9,10,11,12,13,14,15,17],.o 16,.o 18,.h [19,20],.o 21,.h [22,23]]) (ssV s t a n c a2 n2 c2 a1 c1 a3 c3 a7 n7 c7 fl W a8 c8 a9 c9 ⟨.c a6 c6,true,X⟩) k) :
  bE Tryz.prog (bodyPost Tryz.prog fn Rp) (Fe 5 (rV fl W a8 c8 a9 c9 R0 .a)) ⟨false,5⟩ (.at (.code (.region 13 (bK 13 Tryz.f5).toArray true)) ⟨mkT X (aLP fl W a8 c8 a9 c9) 0 106,rD s t a n c a2 n2 c2 a1 c1 a3 c3 a7 n7 c7⟩ k):=by
 refine wT (n:=19) (L:=#[true,true,true,true,false,true,false,false,false,false,false,false,false,false,false,false,false,false,false,false,false,false,false,false]) env (Fe.frm 5 _) [0,1,3,7,15,7,39,103,255,511,1023,2047,4095,8191,16383,32767,65535,32767,262143,524287,1048575,2097151,4194303,8388607] [0,1,2,3,5] 229568 (fun _=>True) (fun _ _ _=>trivial) (fun _ _ _=>trivial) ?_;refine cV (env (fn:=fn) (R:=Rp)).tt ?_;refine⟨rfl,?_⟩;intro B w F S hS;refine uL (lv:=lvV fl W a8 c8 a9 c9 .a false) (m:=106) (bx:=rD s t a n c a2 n2 c2 a1 c1 a3 c3 a7 n7 c7) (by repeat (first|exact trivial|refine⟨rfl,?_⟩)) ?_;intro X;refine qX (ssV s t a n c a2 n2 c2 a1 c1 a3 c3 a7 n7 c7 fl W a8 c8 a9 c9) (ffV fl W a8 c8 a9 c9 (mkB B 0 (rD s t a n c a2 n2 c2 a1 c1 a3 c3 a7 n7 c7)) R0) lsV muV 16 ?_ ?_ ?_ 3 ⟨.a,false,X⟩ B w rfl ⟨F,rfl⟩
 ·intro i v K hF;exact hS v (FeH.heads hF) trivial
 ·rintro⟨p,x,X⟩ hi B' v hF;cases p with
  | a=>cases x<;>cases hi
  | b a6 c6=>cases x<;>cases hi
  | c a6 c6 =>
   cases x with
   | false=>cases hi
   | true =>
    refine aKk env [.h [8,9,10,11,12,13,14,15,17],.o 16,.o 18,.h [19,20],.o 21,.h [22,23]] (by kernel_rfl) (h a6 c6 X) ?_ hF.1;have e:mkB B' 0 (rD s t a n c a2 n2 c2 a1 c1 a3 c3 a7 n7 c7)=mkB B 0 (rD s t a n c a2 n2 c2 a1 c1 a3 c3 a7 n7 c7):=hF.2;intro u hu;refine hS u (fun i cc hi=>?_) trivial;have g1:(mkB B 0 (rD s t a n c a2 n2 c2 a1 c1 a3 c3 a7 n7 c7))[i]? = some (B i,AV.denL B cc):=by rw[fJ,hi,Nat.zero_add];rfl
    have g2:(mkB B' 0 (rD s t a n c a2 n2 c2 a1 c1 a3 c3 a7 n7 c7))[i]? = some (B' i,AV.denL B' cc):=by rw[fJ,hi,Nat.zero_add];rfl
    rw[e,g1]at g2;rw[Option.some.inj g2];exact hu i cc hi
 ·rintro⟨p,x,X⟩ m hm;cases p with
  | a =>
   cases x
   ·exact aMR hk _ rfl hFl hw X m hm
   ·exact aL6 hk _ rfl hFl hw X m hm
  | b a6 c6 =>
   cases x
   ·exact aMS hk _ rfl a6 c6 X m hm
   ·exact aL7 hk _ rfl a6 c6 X m hm
  | c a6 c6 =>
   cases x
   ·exact aMT hk _ rfl a6 c6 X m hm
   ·cases hm
end Go.Proofs.YtgeihgombjbkbaaGreat
namespace Go.Proofs.Own
open Go Go.RowKit
section
variable {P:Program} {Q:Exit->Act->World->Prop} {k8:KB} {F:World->Bx->Prop} {s:St} {k:List KF}
theorem aKB {c:Code}{lv:List (Nat × AV)}{m:Nat}(h0:∀B,agL B s.tm lv)(h:∀X,bE P Q F k8 (.at (.code c) ⟨mkT X lv 0 m,s.bx⟩ k))(hn:s.tm.length=m:=by rfl):bE P Q F k8 (.at (.code c) s k):=fun B w H=>by
 have:=h (fun j=>(getT s.tm j).den B) B w H;rw[lP (h0 B) hn]at this;exact this
theorem aMB {F':World->Bx->Prop}{c:Cf}(hF:∀B w,F' w (mkB B 0 s.bx)->F w (mkB B 0 s.bx))(h:bE P Q F k8 (.at c s k)):bE P Q F' k8 (.at c s k):=fun B w H=>h B w (hF B w H)
theorem aKh {l l':List Oper}{J:Nat}{m:List Bool}{b0:List (List AV)}{ok:Bool}{st:List Stg}(h:Ok P Q F (.pl l' J m b0 ok st) s k)(e:l=l':=by cbv):Ok P Q F (.pl l J m b0 ok st) s k:=e ▸ h
end
end Go.Proofs.Own
namespace Go.Proofs.YtgeihgombjbkbaaGreat
open Go Go.RowKit Go.Maps Go.Proofs.Own
theorem wM {s:bU}(h:eZ s=true)(hf:mD s)(hat:∀a ∈ s.acts,-9223372036854775808<=a.com.at'/\a.com.at'<9223372036854775808)(hn:s.acts.length<=200):(fA s).length<=900000 /\ ∀x ∈ fA s,x<256:=by
 obtain⟨g1,g2,g3⟩:=kJ h;have hPW:fA s=aE ((eT s).map Int.toNat)++(cL s.by'++(aC s.acts.length++bM s.acts)):=by rw[fA,rE]
 have h9:=gD (ns:=(eT s).map Int.toNat) (fun m hm=>by obtain⟨z,hz,rfl⟩:=List.mem_map.1 hm;have:=g1 z hz;omega);have hcl:((eT s).map Int.toNat).length=7:=rfl;have hA:∀q ∈ s.acts,(gW q).length<=2000 /\ ∀x ∈ gW q,x<256:=fun q hq=>nT (g3 q hq) (hf q hq) (hat q hq).1 (hat q hq).2;have hlenA:∀l:List aL,(∀q ∈ l,(gW q).length<=2000)->(bM l).length<=2000*l.length:=by
  intro l
  induction l with
  | nil=>intro _;exact Nat.zero_le _
  | cons a l ih =>
   intro hl;have h1:=ih fun q hq=>hl q (List.mem_cons_of_mem _ hq);have h2:=hl a List.mem_cons_self;show (List.flatMap gW (a::l)).length<=_;rw[List.flatMap_cons,List.length_append,List.length_cons];have h3:(List.flatMap gW l).length<=2000*l.length:=h1;omega
 have hL:=hlenA s.acts fun q hq=>(hA q hq).1;have hi:=fH (z:=s.by') (by omega) (by omega);have hnm:=bB (n:=s.acts.length) (by omega);rw[hPW];refine⟨?_,fun x hx=>?_⟩
 ·simp only[List.length_append];omega
 rcases List.mem_append.1 hx with hx|hx
 ·exact h9.2 x hx
 rcases List.mem_append.1 hx with hx|hx
 ·exact rL (by omega) (by omega) x hx
 rcases List.mem_append.1 hx with hx|hx
 ·exact iI (by omega) x hx
 ·exact sQ (fun q hq=>(hA q hq).2) x hx
theorem aN.at' {w:World}{s:bU}{L:List (aL × aT)}{a:Option Addr}{n c:Nat}(h:aN w s L a n c):∀q ∈ s.acts,-9223372036854775808<=q.com.at'/\q.com.at'<9223372036854775808:=fun q hq=>by
 rw[h.eq]at hq;obtain⟨p,hp,rfl⟩:=List.mem_map.1 hq;exact⟨(h.acts.each p hp).com.at0,(h.acts.each p hp).com.at1⟩
def dM:Nat->Option Pl
 | 4=>some ⟨[0,1,0,7,15,31,63,63,255,63,63,2047,4095,8191,16383,32767,32767,131071,262143,524287],100290,[.h [0,2],.o 1,.o 3,.h [4,5,6,7,9,10],.o 8,.o 11,.h [12,13,14,15,16],.o 17,.h [18,19]],[]⟩
 | _=>none
theorem uU (HL:aAa)(s t:bU)(L M:List (aL × aT))(a:Option Addr)(n c:Nat)(a2:Option Addr)(n2 c2:Nat)(w:World)(h1:aN w s L a n c)(h2:aN w t M a2 n2 c2)(hf:mD s)(hl1:(decide (n<=200)&&L.all fun p=>ltA p.2)=true)(hl2:(decide (n2<=200)&&M.all fun p=>ltA p.2)=true) :
  Calls Tryz.prog 5 #[.agg (gR s a n c).toArray,.agg (gR t a2 n2 c2).toArray] w fun e w'=>e = .returned (.bool true)/\Below w.heap.size w w':=by
 have hn2:n<=200:=by
  rw[Bool.and_eq_true,decide_eq_true_eq]at hl1;exact hl1.1
 have hat:=h1.at';have hln:=h1.acts.ln;have hsl:s.acts.length<=200:=by rw[h1.eq,List.length_map];omega
 have F0:Fr (fun _=>False) w w [] (fun u=>aN u s L a n c/\aN u t M a2 n2 c2):=Fr.zero w nofun fun u ku=>⟨h1.below (ku.below (Nat.le_refl _) nofun),h2.below (ku.below (Nat.le_refl _) nofun)⟩;refine enter (F:=fun u K=>Fr (fun _=>False) w u K (fun u=>aN u s L a n c/\aN u t M a2 n2 c2)) (fun _=>0) [.g (bH s a n c),.g (bH t a2 n2 c2)] [] Tryz.func5 rfl rfl F0 104 rfl ?_;clear F0 h1 h2;refine ga env (Fr.frm _ _ _) dM ?_;intro B u F;refine(lU s L a n c u F.r.1.acts.row F.r.1.acts.ln (by have:=F.r.1.acts.sm;omega)).mono ?_;rintro e w2 ⟨rfl,hb⟩;rw[hl1];refine⟨.b (.l true),_,rfl,(Fr.frm _ _ _).b,F.call hb,?_⟩;clear F hb;refine ga env (Fr.frm _ _ _) dM ?_;intro B u F;refine(lU t M a2 n2 c2 u F.r.2.acts.row F.r.2.acts.ln (by have:=F.r.2.acts.sm;omega)).mono ?_;rintro e w2 ⟨rfl,hb⟩;rw[hl2];refine⟨.b (.l true),_,rfl,(Fr.frm _ _ _).b,F.call hb,?_⟩;clear F hb B u w2;refine ga env (Fr.frm _ _ _) dM ?_;refine aKB (lv:=[(2,.p 0 0),(3,.p 1 0),(4,.b (.l false))]) (m:=106) (fun B=>⟨rfl,rfl,rfl,trivial⟩) ?_;intro X;refine zS (by kernel_rfl) X ?_;clear X;intro a1 c1 L1 a3 c3 L3 X;refine ga env (Fe.frm 4 _) dM ?_;intro B v F;refine(lX s L a n c v F.now.2.2.2.1).mono ?_;rintro e w2 ⟨rfl,hbw⟩;have hlen:eZ s=true->(fA s).length<=900000 /\ ∀x ∈ fA s,x<256:=fun h=>wM h hf hat hsl;cases hok:eZ s with
 | false =>
  refine⟨.b (.l false),_,rfl,(Fe.frm 4 _).b,F.on hbw,?_⟩;clear F hbw B v w2;refine ga env (Fe.frm 4 _) dM ?_;intro B v F;refine(jX s L1 a1 n c1 v F.now.2.2.1).mono ?_;rintro e w2 ⟨rfl,hbw⟩;rw[hok];refine⟨.b (.l false),_,rfl,(Fe.frm 4 _).b,F.on hbw,?_⟩;clear F hbw;refine ga env (Fe.frm 4 _) dM ?_;intro B v F;refine(iJ s t L M a a2 n n2 c c2 v F.now.2.2.2.1 F.now.2.2.2.2).mono ?_;rintro e w2 ⟨rfl,hbw⟩;refine⟨.b (.x fun _=>decide (s=t)),_,rfl,(Fe.frm 4 _).b,F.on hbw,?_⟩;clear F hbw;refine ga env (Fe.frm 4 _) dM ?_;intro B v F;refine(mP s t L1 L3 a1 a3 n n2 c1 c3 v F.now.2.2.1 F.now.2.1).mono ?_;rintro e w2 ⟨rfl,hbw⟩;refine⟨.b (.x fun _=>decide (s=t)),_,rfl,(Fe.frm 4 _).b,F.on hbw,?_⟩;clear F hbw;refine ga env (Fe.frm 4 _) dM ?_;refine nF 39 (.b (.l false)) ?_ (fun B=>congrArg Value.bool (bne_self_eq_false _));refine ga env (Fe.frm 4 _) dM ?_;intro B v F;refine(iJ s s L L a a n n c c v F.now.2.2.2.1 F.now.2.2.2.1).mono ?_;rintro e w2 ⟨rfl,hbw⟩;rw[decide_eq_true rfl];refine⟨.b (.l true),_,rfl,(Fe.frm 4 _).b,F.on hbw,?_⟩;clear F hbw;refine ga env (Fe.frm 4 _) dM ?_;have hq:=fun v hv=>iL s L a n c v hv hf (fun h=>(hlen h).1);simp only[mS,hok,if_neg Bool.false_ne_true]at hq;intro B v F;refine(hq v F.now.2.2.2.1).mono ?_;rintro e w2 ⟨hbw,rfl⟩;refine⟨.t [.v (.slice none 0 0),.i .i64 (.l 2)],_,rfl,(Fe.frm 4 _).b,F.on hbw,?_⟩;clear F hbw;refine ga env (Fe.frm 4 _) dM ?_;intro B v F;refine(jX s L1 a1 n c1 v F.now.2.2.1).mono ?_;rintro e w2 ⟨rfl,hbw⟩;rw[hok];refine⟨.b (.l false),_,rfl,(Fe.frm 4 _).b,F.on hbw,?_⟩;clear F hbw;refine ga env (Fe.frm 4 _) dM ?_;intro B v F;refine(HL v).mono ?_;rintro e w2 ⟨rfl,hbw⟩;refine⟨.b (.l true),_,rfl,(Fe.frm 4 _).b,F.on hbw,?_⟩;clear F hbw;refine ga env (Fe.frm 4 _) dM ?_;refine fa env (Fe.frm 4 _) ?_;intro B v F;exact⟨rfl,F.now.1⟩
 | true =>
  refine⟨.b (.l true),_,rfl,(Fe.frm 4 _).b,F.on hbw,?_⟩;clear F hbw B v w2;refine ga env (Fe.frm 4 _) dM ?_;intro B v F;refine(jX s L1 a1 n c1 v F.now.2.2.1).mono ?_;rintro e w2 ⟨rfl,hbw⟩;rw[hok];refine⟨.b (.l true),_,rfl,(Fe.frm 4 _).b,F.on hbw,?_⟩;clear F hbw;refine ga env (Fe.frm 4 _) dM ?_;intro B v F;refine(iJ s t L M a a2 n n2 c c2 v F.now.2.2.2.1 F.now.2.2.2.2).mono ?_;rintro e w2 ⟨rfl,hbw⟩;refine⟨.b (.x fun _=>decide (s=t)),_,rfl,(Fe.frm 4 _).b,F.on hbw,?_⟩;clear F hbw;refine ga env (Fe.frm 4 _) dM ?_;intro B v F;refine(mP s t L1 L3 a1 a3 n n2 c1 c3 v F.now.2.2.1 F.now.2.1).mono ?_;rintro e w2 ⟨rfl,hbw⟩;refine⟨.b (.x fun _=>decide (s=t)),_,rfl,(Fe.frm 4 _).b,F.on hbw,?_⟩;clear F hbw;refine ga env (Fe.frm 4 _) dM ?_;refine nF 39 (.b (.l false)) ?_ (fun B=>congrArg Value.bool (bne_self_eq_false _));refine ga env (Fe.frm 4 _) dM ?_;intro B v F;refine(iJ s s L L a a n n c c v F.now.2.2.2.1 F.now.2.2.2.1).mono ?_;rintro e w2 ⟨rfl,hbw⟩;rw[decide_eq_true rfl];refine⟨.b (.l true),_,rfl,(Fe.frm 4 _).b,F.on hbw,?_⟩;clear F hbw;refine ga env (Fe.frm 4 _) dM ?_;obtain⟨hle,hlt⟩:=hlen hok;clear hlen;by_cases hk:(fA s).length<=65536
  ·have hq:=fun v hv=>iL s L a n c v hv hf (fun _=>hle);simp only[mS,if_pos hok,if_pos hk]at hq;have hr:=aLZ hok hf hat hk;have hfl:=oH 6 (fA s);have hg:=fun v hv=>aH0 s L1 a1 n c1 v hv hok hf hle;generalize fA s=W at hg hle hlt hk hq hr hfl;generalize hFl:frP 6 W=fl at hq hr hfl;intro B v F;refine(hq v F.now.2.2.2.1).mono ?_;rintro e w2 ⟨hbw,v8,rfl,hb8⟩;obtain⟨a8,c8,rfl,_⟩:=hb8.shape;refine⟨.t [.sl (fun _=>a8) (fun _=>fl.length) (fun _=>c8),.i .i64 (.l 0)],_,rfl,(Fe.frm 4 _).b,F.step hbw (Z:=fun v=>Bytes v (.slice a8 fl.length c8) fl) (fun v bv=>hb8.below bv),?_⟩;clear F hbw hb8 hq;refine ga env (Fe.frm 4 _) dM ?_;intro B v F;refine(jX s L1 a1 n c1 v F.now.2.2.2.1).mono ?_;rintro e w2 ⟨rfl,hbw⟩;rw[hok];refine⟨.b (.l true),_,rfl,(Fe.frm 4 _).b,F.on hbw,?_⟩;clear F hbw;refine ga env (Fe.frm 4 _) dM ?_;intro B v F;refine(hg v F.now.2.2.2.1).mono ?_;rintro e w2 ⟨v9,rfl,ho,hbw⟩;have hb9:=Bytes.dJ ho hlt (by omega);obtain⟨a9,c9,rfl,_⟩:=hb9.shape;refine⟨.sl (fun _=>a9) (fun _=>W.length) (fun _=>c9),_,rfl,(Fe.frm 4 _).b,F.step hbw (Z:=fun v=>Bytes v (.slice a9 W.length c9) W) (fun v bv=>hb9.below bv),?_⟩;clear F hbw hb9 ho;refine ga env (Fe.frm 4 _) dM ?_;refine⟨fun q=>?_,fun q=>?_⟩
   ·exfalso;have q:decide ((W.length:Int) > 65536)=true:=q;simp only[decide_eq_true_eq]at q;omega
   clear q;refine ga env (Fe.frm 4 _) dM ?_;intro B v F;refine(uH F.now.2.1).mono ?_;rintro e w2 ⟨L7,a7,n7,c7,rfl,hs7,hbw⟩;rw[hr]at hs7 ⊢;refine⟨.t [.g (bH s a7 n7 c7),.i .i64 (.l 0)],_,rfl,(Fe.frm 4 _).b,F.step hbw (Z:=fun v=>aN v s L7 a7 n7 c7) (fun v bv=>hs7.below bv),?_⟩;clear F hbw hs7;refine ga env (Fe.frm 4 _) dM ?_;refine aKB (lv:=aLP fl W a8 c8 a9 c9) (m:=106) (fun B=>by repeat (first|exact trivial|refine⟨rfl,?_⟩)) ?_;intro X;refine aMB (F:=Fe 5 (rV fl W a8 c8 a9 c9 (fun u=>Below w.heap.size w u/\aN u s L7 a7 n7 c7/\aN u s L1 a1 n c1) .a)) (fun B w F=>(F.on (Below.refl _ _)).imp fun u h=>⟨h.2.2.1,h.2.1,h.2.2.2.1,h.1,h.2.2.2.2.2.1⟩) ?_;refine zR (by kernel_rfl) hFl hk X ?_;clear X;intro a6 c6 X;refine aKh ?_;refine ga env (Fe.frm 5 _) dM ?_;refine nF 93 (.b (.l true)) ?_ (fun B=>congrArg Value.bool (beq_self_eq_true _));refine ga env (Fe.frm 5 _) dM ?_;intro B v F;refine(uQ s L7 a7 n7 c7 v F.now.2.2.2.2.1 (Nat.lt_of_le_of_lt (Nat.zero_le _) ((Fe.frm 5 _).box F (i:=0) rfl).1)).mono ?_;rintro e w2 ⟨L5,a5,c5,rfl,hs5,hbw⟩;refine⟨.g (bH s a5 n7 c5),_,rfl,(Fe.frm 5 _).b,F.step hbw (Z:=fun v=>aN v s L5 a5 n7 c5) (fun v bv=>hs5.below bv),?_⟩;clear F hbw hs5;refine ga env (Fe.frm 5 _) dM ?_;intro B v F;refine(mP s s L5 L1 a5 a1 n7 n c5 c1 v F.now.1 F.now.2.2.2.2.2.2).mono ?_;rintro e w2 ⟨rfl,hbw⟩;rw[decide_eq_true rfl];refine⟨.b (.l true),_,rfl,(Fe.frm 5 _).b,F.on hbw,?_⟩;clear F hbw;refine ga env (Fe.frm 5 _) dM ?_;intro B v F;refine(HL v).mono ?_;rintro e w2 ⟨rfl,hbw⟩;refine⟨.b (.l true),_,rfl,(Fe.frm 5 _).b,F.on hbw,?_⟩;clear F hbw;refine ga env (Fe.frm 5 _) dM ?_;refine fa env (Fe.frm 5 _) ?_;intro B v F;exact⟨rfl,F.now.2.2.2.2.1⟩
  ·have hq:=fun v hv=>iL s L a n c v hv hf (fun _=>hle);simp only[mS,if_pos hok,if_neg hk]at hq;intro B v F;refine(hq v F.now.2.2.2.1).mono ?_;rintro e w2 ⟨hbw,rfl⟩;refine⟨.t [.v (.slice none 0 0),.i .i64 (.l 21)],_,rfl,(Fe.frm 4 _).b,F.on hbw,?_⟩;clear F hbw;refine ga env (Fe.frm 4 _) dM ?_;intro B v F;refine(jX s L1 a1 n c1 v F.now.2.2.1).mono ?_;rintro e w2 ⟨rfl,hbw⟩;rw[hok];refine⟨.b (.l true),_,rfl,(Fe.frm 4 _).b,F.on hbw,?_⟩;clear F hbw;refine ga env (Fe.frm 4 _) dM ?_;intro B v F;refine(aH0 s L1 a1 n c1 v F.now.2.2.1 hok hf hle).mono ?_;rintro e w2 ⟨v9,rfl,ho,hbw⟩;have hb9:=Bytes.dJ ho hlt (by omega);obtain⟨a9,c9,rfl,_⟩:=hb9.shape;refine⟨.sl (fun _=>a9) (fun _=>(fA s).length) (fun _=>c9),_,rfl,(Fe.frm 4 _).b,F.on hbw,?_⟩;clear F hbw hb9 ho;refine ga env (Fe.frm 4 _) dM ?_;refine⟨fun q=>?_,fun q=>?_⟩
   ·clear q;refine ga env (Fe.frm 4 _) dM ?_;intro B v F;refine(HL v).mono ?_;rintro e w2 ⟨rfl,hbw⟩;refine⟨.b (.l true),_,rfl,(Fe.frm 4 _).b,F.on hbw,?_⟩;clear F hbw;refine ga env (Fe.frm 4 _) dM ?_;refine fa env (Fe.frm 4 _) ?_;intro B v F;exact⟨rfl,F.now.1⟩
   ·exfalso;have q:decide (((fA s).length:Int) > 65536)=false:=q;simp only[decide_eq_false_iff_not]at q;omega
end Go.Proofs.YtgeihgombjbkbaaGreat
namespace Go.Proofs.YtgeihgombjbkbaaGreat
open Go Go.RowKit Go.Maps Go.Proofs.Own
theorem sG (HL:aAa)(s t:bU)(L M:List (aL × aT))(a:Option Addr)(n c:Nat)(a2:Option Addr)(n2 c2:Nat)(w:World)(h1:aM w 19 (.slice a n c) (L.map fun p=>cJ p.1 p.2))(hn:L.length=n)(hs:n<=9223372036854775807)(h2:aM w 19 (.slice a2 n2 c2) (M.map fun p=>cJ p.1 p.2))(hn2:M.length=n2)(hs2:n2<=9223372036854775807)(hd:((decide (n<=200)&&L.all fun p=>ltA p.2)&&(decide (n2<=200)&&M.all fun p=>ltA p.2))=false) :
  Calls Tryz.prog 5 #[.agg (gR s a n c).toArray,.agg (gR t a2 n2 c2).toArray] w fun e w'=>e = .returned (.bool true)/\Below w.heap.size w w':=by
 have F0:Fe 0 (fun v=>Below w.heap.size w v/\aM v 19 (.slice a n c) (L.map fun p=>cJ p.1 p.2)/\aM v 19 (.slice a2 n2 c2) (M.map fun p=>cJ p.1 p.2)) w []:=Fe.start fun _ bv=>⟨bv,h1.below bv,h2.below bv⟩;refine enter (fun _=>0) [.g (bH s a n c),.g (bH t a2 n2 c2)] [] Tryz.func5 rfl rfl F0 104 rfl ?_;refine ga env (Fe.frm 0 _) dM ?_;intro B v F;refine(lU s L a n c v F.now.2.1 hn hs).mono ?_;rintro e w2 ⟨rfl,hb⟩;cases hq:(decide (n<=200)&&L.all fun p=>ltA p.2) with
 | false =>
  refine⟨.b (.l false),_,rfl,(Fe.frm 2 _).b,F.on hb,?_⟩;clear F hb;refine ga env (Fe.frm 2 _) dM ?_;intro B v F;refine(HL v).mono ?_;rintro e w2 ⟨rfl,hbw⟩;refine⟨.b (.l true),_,rfl,(Fe.frm 2 _).b,F.on hbw,?_⟩;clear F hbw;refine ga env (Fe.frm 2 _) dM ?_;refine fa env (Fe.frm 2 _) ?_;intro B v F;exact⟨rfl,F.now.1⟩
 | true =>
  rw[hq,Bool.true_and]at hd;refine⟨.b (.l true),_,rfl,(Fe.frm 2 _).b,F.on hb,?_⟩;clear F hb;refine ga env (Fe.frm 2 _) dM ?_;intro B v F;refine(lU t M a2 n2 c2 v F.now.2.2 hn2 hs2).mono ?_;rintro e w2 ⟨rfl,hb⟩;rw[hd];refine⟨.b (.l false),_,rfl,(Fe.frm 2 _).b,F.on hb,?_⟩;clear F hb;refine ga env (Fe.frm 2 _) dM ?_;intro B v F;refine(HL v).mono ?_;rintro e w2 ⟨rfl,hbw⟩;refine⟨.b (.l true),_,rfl,(Fe.frm 2 _).b,F.on hbw,?_⟩;clear F hbw;refine ga env (Fe.frm 2 _) dM ?_;refine fa env (Fe.frm 2 _) ?_;intro B v F;exact⟨rfl,F.now.1⟩
def vP (w:World)(s:bU)(L:List (aL × aT))(a:Option Addr)(n c:Nat):Prop:=aM w 19 (.slice a n c) (L.map fun p=>cJ p.1 p.2)/\L.length=n/\n<=9223372036854775807/\((decide (n<=200)&&L.all fun p=>ltA p.2)=true->aN w s L a n c/\mD s)
theorem uT (HL:aAa)(s t:bU)(L M:List (aL × aT))(a:Option Addr)(n c:Nat)(a2:Option Addr)(n2 c2:Nat)(w:World)(h1:vP w s L a n c)(h2:vP w t M a2 n2 c2) :
  Calls Tryz.prog 5 #[.agg (gR s a n c).toArray,.agg (gR t a2 n2 c2).toArray] w fun e w'=>e = .returned (.bool true)/\Below w.heap.size w w':=by
 cases hd:((decide (n<=200)&&L.all fun p=>ltA p.2)&&(decide (n2<=200)&&M.all fun p=>ltA p.2)) with
 | false=>exact sG HL s t L M a n c a2 n2 c2 w h1.1 h1.2.1 h1.2.2.1 h2.1 h2.2.1 h2.2.2.1 hd
 | true =>
  rw[Bool.and_eq_true]at hd;have g1:=h1.2.2.2 hd.1;exact uU HL s t L M a n c a2 n2 c2 w g1.1 (h2.2.2.2 hd.2).1 g1.2 hd.1 hd.2
