/- For scbytes_law_holds. -/
import Derived.Test.YtgeihgombjbkbaaGreatSyb30
import Derived.Test.YtgeihgombjbkbaaGreatSyb12
import Derived.Test.YtgeihgombjbkbaaGreatSyb25
set_option maxHeartbeats 16000000
set_option maxRecDepth 100000
namespace Go.Proofs.YtgeihgombjbkbaaGreat
open Go.RowKit Go.Maps Go.Proofs.Own

def aAg (a:aL):Bool:=decide (1<=a.k/\a.k<=20/\0<=a.who/\a.who<=8/\0<=a.to/\a.to<=7 /\ -1125899906842624<=a.n/\a.n<=1125899906842624/\a.ts.length<=16)
def dC (a:aL):Bool:=aAg a&&(decide (a.com=fY) || bY a.com)
theorem bZ {a:aL}(h:aAg a=false):dC a=false:=by unfold dC;rw[h];rfl
theorem pS {a:aL}(h:aAg a=true):dC a=(decide (a.com=fY) || bY a.com):=by unfold dC;rw[h];rfl
def cN (a:aL)(A:aT):List AV:=wR (.x fun _=>a.k) (.x fun _=>a.who) (.x fun _=>a.n) (.x fun _=>a.to) (.x fun _=>a.id) a.com A.com (.sl (fun _=>A.ta) (fun _=>A.tn) (fun _=>A.tc))
theorem qI (c:cI)(A:fO)(w:World)(h:aY w c A):Calls Tryz.prog 84 #[.agg (gY c A).toArray] w fun e w'=>e = .returned (.bool (decide (c=fY)))/\Below w.heap.size w w':=by
 have F0:Fo [] (fun _=>False) w (fun v=>Below w.heap.size w v/\aY v c A) w []:=Fo.start nofun fun _ bv=>⟨bv,h.below bv⟩;clear h;refine enter (fun _=>0) [.g (bX (.x fun _=>c.k) c A)] [] Tryz.func84 rfl rfl F0 5 rfl ?_;refine ga env (Fo.frm _ _ _ _ 0 rfl) aA ?_;intro B v F;refine(jG c fY A eU v F.now.2 (aY.zero v)).mono ?_;rintro e w2 ⟨rfl,hb⟩;refine⟨.b (.x fun _=>decide (c=fY)),_,rfl,(Fo.frm _ _ _ _ _ rfl).b,F.on hb,?_⟩;clear F hb;refine ga env (Fo.frm _ _ _ _ 1 rfl) aA ?_;refine fa env (Fo.frm _ _ _ _ 1 rfl) ?_;intro B v F;exact⟨rfl,F.now.1⟩
theorem qO (c:cI)(A:fO)(w:World)(h:aY w c A):Calls Tryz.prog 55 #[.agg (gY c A).toArray] w fun e w'=>e = .returned (.bool (decide (c=fY)))/\Below w.heap.size w w':=by
 have F0:Fo [] (fun _=>False) w (fun v=>Below w.heap.size w v/\aY v c A) w []:=Fo.start nofun fun _ bv=>⟨bv,h.below bv⟩;clear h;refine enter (fun _=>0) [.g (bX (.x fun _=>c.k) c A)] [] Tryz.func55 rfl rfl F0 5 rfl ?_;refine ga env (Fo.frm _ _ _ _ 0 rfl) aA ?_;intro B v F;refine(jI c fY A eU v F.now.2 (aY.zero v)).mono ?_;rintro e w2 ⟨rfl,hb⟩;refine⟨.b (.x fun _=>decide (c=fY)),_,rfl,(Fo.frm _ _ _ _ _ rfl).b,F.on hb,?_⟩;clear F hb;refine ga env (Fo.frm _ _ _ _ 1 rfl) aA ?_;refine fa env (Fo.frm _ _ _ _ 1 rfl) ?_;intro B v F;exact⟨rfl,F.now.1⟩
theorem aIp (a:aL)(A:aT)(w:World)(h:bO w a A):Calls Tryz.prog 45 #[.agg (cJ a A).toArray] w fun e w'=>e = .returned (.bool (dC a))/\Below w.heap.size w w':=by
 have F0:Fo [] (fun _=>False) w (fun v=>Below w.heap.size w v/\bO v a A) w []:=Fo.start nofun fun _ bv=>⟨bv,h.below bv⟩;have hn:=h.n;clear h;refine enter (fun _=>0) [.g (cN a A)] [] Tryz.func45 rfl rfl F0 54 rfl ?_;refine ga env (Fo.frm _ _ _ _ 0 rfl) aA ?_;by_cases h1:a.k<1
 ·refine aI 7 true (e:=.cmp .lss (.x fun _=>a.k) (.l 1)) (decide_eq_true h1) ?_;rw[bZ (decide_eq_false (fun h=>by omega))];refine ga env (Fo.frm _ _ _ _ 0 rfl) aA ?_;refine fa env (Fo.frm _ _ _ _ 0 rfl) ?_;intro B v F;exact⟨rfl,F.now.1⟩
 refine aI 7 false (e:=.cmp .lss (.x fun _=>a.k) (.l 1)) (decide_eq_false h1) ?_;refine ga env (Fo.frm _ _ _ _ 0 rfl) aA ?_;by_cases h2:a.k > 20
 ·refine aI 12 true (e:=.cmp .gtr (.x fun _=>a.k) (.l 20)) (decide_eq_true h2) ?_;rw[bZ (decide_eq_false (fun h=>by omega))];refine ga env (Fo.frm _ _ _ _ 0 rfl) aA ?_;refine fa env (Fo.frm _ _ _ _ 0 rfl) ?_;intro B v F;exact⟨rfl,F.now.1⟩
 refine aI 12 false (e:=.cmp .gtr (.x fun _=>a.k) (.l 20)) (decide_eq_false h2) ?_;refine ga env (Fo.frm _ _ _ _ 0 rfl) aA ?_;by_cases h3:a.who<0
 ·refine aI 17 true (e:=.cmp .lss (.x fun _=>a.who) (.l 0)) (decide_eq_true h3) ?_;rw[bZ (decide_eq_false (fun h=>by omega))];refine ga env (Fo.frm _ _ _ _ 0 rfl) aA ?_;refine fa env (Fo.frm _ _ _ _ 0 rfl) ?_;intro B v F;exact⟨rfl,F.now.1⟩
 refine aI 17 false (e:=.cmp .lss (.x fun _=>a.who) (.l 0)) (decide_eq_false h3) ?_;refine ga env (Fo.frm _ _ _ _ 0 rfl) aA ?_;refine⟨fun q=>?_,fun q=>?_⟩
 ·have h4:a.who > 8:=by simpa [BE.den,cmpB,IE.den] using q
  rw[bZ (decide_eq_false (fun h=>by omega))];refine ga env (Fo.frm _ _ _ _ 0 rfl) aA ?_;refine fa env (Fo.frm _ _ _ _ 0 rfl) ?_;intro B v F;exact⟨rfl,F.now.1⟩
 have h4:¬a.who > 8:=by simpa [BE.den,cmpB,IE.den] using q
 clear q;refine ga env (Fo.frm _ _ _ _ 0 rfl) aA ?_;by_cases h5:a.to<0
 ·refine aI 26 true (e:=.cmp .lss (.x fun _=>a.to) (.l 0)) (decide_eq_true h5) ?_;rw[bZ (decide_eq_false (fun h=>by omega))];refine ga env (Fo.frm _ _ _ _ 0 rfl) aA ?_;refine fa env (Fo.frm _ _ _ _ 0 rfl) ?_;intro B v F;exact⟨rfl,F.now.1⟩
 refine aI 26 false (e:=.cmp .lss (.x fun _=>a.to) (.l 0)) (decide_eq_false h5) ?_;refine ga env (Fo.frm _ _ _ _ 0 rfl) aA ?_;by_cases h6:a.to > 7
 ·refine aI 31 true (e:=.cmp .gtr (.x fun _=>a.to) (.l 7)) (decide_eq_true h6) ?_;rw[bZ (decide_eq_false (fun h=>by omega))];refine ga env (Fo.frm _ _ _ _ 0 rfl) aA ?_;refine fa env (Fo.frm _ _ _ _ 0 rfl) ?_;intro B v F;exact⟨rfl,F.now.1⟩
 refine aI 31 false (e:=.cmp .gtr (.x fun _=>a.to) (.l 7)) (decide_eq_false h6) ?_;refine ga env (Fo.frm _ _ _ _ 0 rfl) aA ?_;by_cases h7:a.n < -1125899906842624
 ·refine aI 36 true (e:=.cmp .lss (.x fun _=>a.n) (.l (-1125899906842624))) (decide_eq_true h7) ?_;rw[bZ (decide_eq_false (fun h=>by omega))];refine ga env (Fo.frm _ _ _ _ 0 rfl) aA ?_;refine fa env (Fo.frm _ _ _ _ 0 rfl) ?_;intro B v F;exact⟨rfl,F.now.1⟩
 refine aI 36 false (e:=.cmp .lss (.x fun _=>a.n) (.l (-1125899906842624))) (decide_eq_false h7) ?_;refine ga env (Fo.frm _ _ _ _ 0 rfl) aA ?_;by_cases h8:a.n > 1125899906842624
 ·refine aI 41 true (e:=.cmp .gtr (.x fun _=>a.n) (.l 1125899906842624)) (decide_eq_true h8) ?_;rw[bZ (decide_eq_false (fun h=>by omega))];refine ga env (Fo.frm _ _ _ _ 0 rfl) aA ?_;refine fa env (Fo.frm _ _ _ _ 0 rfl) ?_;intro B v F;exact⟨rfl,F.now.1⟩
 refine aI 41 false (e:=.cmp .gtr (.x fun _=>a.n) (.l 1125899906842624)) (decide_eq_false h8) ?_;refine ga env (Fo.frm _ _ _ _ 0 rfl) aA ?_;refine⟨fun q=>?_,fun q=>?_⟩
 ·have h9:(A.tn:Int) > 16:=by simpa [BE.den,cmpB,IE.den] using q
  rw[bZ (decide_eq_false (fun h=>by omega))];refine ga env (Fo.frm _ _ _ _ 0 rfl) aA ?_;refine fa env (Fo.frm _ _ _ _ 0 rfl) ?_;intro B v F;exact⟨rfl,F.now.1⟩
 have h9:¬(A.tn:Int) > 16:=by simpa [BE.den,cmpB,IE.den] using q
 clear q;refine ga env (Fo.frm _ _ _ _ 0 rfl) aA ?_;rw[pS (decide_eq_true (by omega))];intro B v F;refine(qI a.com A.com v F.now.2.com).mono ?_;rintro e w2 ⟨rfl,hb⟩;cases hz:decide (a.com=fY) with
 | true =>
  refine⟨.b (.l true),_,rfl,(Fo.frm _ _ _ _ _ rfl).b,F.on hb,?_⟩;clear F hb;refine ga env (Fo.frm _ _ _ _ 1 rfl) aA ?_;refine fa env (Fo.frm _ _ _ _ 1 rfl) ?_;intro B v F;exact⟨rfl,F.now.1⟩
 | false =>
 refine⟨.b (.l false),_,rfl,(Fo.frm _ _ _ _ _ rfl).b,F.on hb,?_⟩;clear F hb;refine ga env (Fo.frm _ _ _ _ 1 rfl) aA ?_;intro B v F;refine(cH a.com A.com v F.now.2.com).mono ?_;rintro e w2 ⟨rfl,hb⟩;refine⟨.b (.x fun _=>bY a.com),_,rfl,(Fo.frm _ _ _ _ _ rfl).b,F.on hb,?_⟩;clear F hb;refine ga env (Fo.frm _ _ _ _ 1 rfl) aA ?_;refine fa env (Fo.frm _ _ _ _ 1 rfl) ?_;intro B v F;exact⟨rfl,F.now.1⟩
theorem aIN (a:aL)(A:aT)(w:World)(h:bO w a A):Calls Tryz.prog 47 #[.agg (cJ a A).toArray] w fun e w'=>e = .returned (.bool (dC a))/\Below w.heap.size w w':=by
 have F0:Fo [] (fun _=>False) w (fun v=>Below w.heap.size w v/\bO v a A) w []:=Fo.start nofun fun _ bv=>⟨bv,h.below bv⟩;have hn:=h.n;clear h;refine enter (fun _=>0) [.g (cN a A)] [] Tryz.func47 rfl rfl F0 54 rfl ?_;refine ga env (Fo.frm _ _ _ _ 0 rfl) aA ?_;by_cases h1:a.k<1
 ·refine aI 6 true (e:=.cmp .lss (.x fun _=>a.k) (.l 1)) (decide_eq_true h1) ?_;rw[bZ (decide_eq_false (fun h=>by omega))];refine ga env (Fo.frm _ _ _ _ 0 rfl) aA ?_;refine fa env (Fo.frm _ _ _ _ 0 rfl) ?_;intro B v F;exact⟨rfl,F.now.1⟩
 refine aI 6 false (e:=.cmp .lss (.x fun _=>a.k) (.l 1)) (decide_eq_false h1) ?_;refine ga env (Fo.frm _ _ _ _ 0 rfl) aA ?_;by_cases h2:a.k > 20
 ·refine aI 11 true (e:=.cmp .gtr (.x fun _=>a.k) (.l 20)) (decide_eq_true h2) ?_;rw[bZ (decide_eq_false (fun h=>by omega))];refine ga env (Fo.frm _ _ _ _ 0 rfl) aA ?_;refine fa env (Fo.frm _ _ _ _ 0 rfl) ?_;intro B v F;exact⟨rfl,F.now.1⟩
 refine aI 11 false (e:=.cmp .gtr (.x fun _=>a.k) (.l 20)) (decide_eq_false h2) ?_;refine ga env (Fo.frm _ _ _ _ 0 rfl) aA ?_;by_cases h3:a.who<0
 ·refine aI 16 true (e:=.cmp .lss (.x fun _=>a.who) (.l 0)) (decide_eq_true h3) ?_;rw[bZ (decide_eq_false (fun h=>by omega))];refine ga env (Fo.frm _ _ _ _ 0 rfl) aA ?_;refine fa env (Fo.frm _ _ _ _ 0 rfl) ?_;intro B v F;exact⟨rfl,F.now.1⟩
 refine aI 16 false (e:=.cmp .lss (.x fun _=>a.who) (.l 0)) (decide_eq_false h3) ?_;refine ga env (Fo.frm _ _ _ _ 0 rfl) aA ?_;by_cases h4:a.who > 8
 ·refine aI 21 true (e:=.cmp .gtr (.x fun _=>a.who) (.l 8)) (decide_eq_true h4) ?_;rw[bZ (decide_eq_false (fun h=>by omega))];refine ga env (Fo.frm _ _ _ _ 0 rfl) aA ?_;refine fa env (Fo.frm _ _ _ _ 0 rfl) ?_;intro B v F;exact⟨rfl,F.now.1⟩
 refine aI 21 false (e:=.cmp .gtr (.x fun _=>a.who) (.l 8)) (decide_eq_false h4) ?_;refine ga env (Fo.frm _ _ _ _ 0 rfl) aA ?_;by_cases h5:a.to<0
 ·refine aI 26 true (e:=.cmp .lss (.x fun _=>a.to) (.l 0)) (decide_eq_true h5) ?_;rw[bZ (decide_eq_false (fun h=>by omega))];refine ga env (Fo.frm _ _ _ _ 0 rfl) aA ?_;refine fa env (Fo.frm _ _ _ _ 0 rfl) ?_;intro B v F;exact⟨rfl,F.now.1⟩
 refine aI 26 false (e:=.cmp .lss (.x fun _=>a.to) (.l 0)) (decide_eq_false h5) ?_;refine ga env (Fo.frm _ _ _ _ 0 rfl) aA ?_;by_cases h6:a.to > 7
 ·refine aI 31 true (e:=.cmp .gtr (.x fun _=>a.to) (.l 7)) (decide_eq_true h6) ?_;rw[bZ (decide_eq_false (fun h=>by omega))];refine ga env (Fo.frm _ _ _ _ 0 rfl) aA ?_;refine fa env (Fo.frm _ _ _ _ 0 rfl) ?_;intro B v F;exact⟨rfl,F.now.1⟩
 refine aI 31 false (e:=.cmp .gtr (.x fun _=>a.to) (.l 7)) (decide_eq_false h6) ?_;refine ga env (Fo.frm _ _ _ _ 0 rfl) aA ?_;by_cases h7:a.n < -1125899906842624
 ·refine aI 36 true (e:=.cmp .lss (.x fun _=>a.n) (.l (-1125899906842624))) (decide_eq_true h7) ?_;rw[bZ (decide_eq_false (fun h=>by omega))];refine ga env (Fo.frm _ _ _ _ 0 rfl) aA ?_;refine fa env (Fo.frm _ _ _ _ 0 rfl) ?_;intro B v F;exact⟨rfl,F.now.1⟩
 refine aI 36 false (e:=.cmp .lss (.x fun _=>a.n) (.l (-1125899906842624))) (decide_eq_false h7) ?_;refine ga env (Fo.frm _ _ _ _ 0 rfl) aA ?_;by_cases h8:a.n > 1125899906842624
 ·refine aI 41 true (e:=.cmp .gtr (.x fun _=>a.n) (.l 1125899906842624)) (decide_eq_true h8) ?_;rw[bZ (decide_eq_false (fun h=>by omega))];refine ga env (Fo.frm _ _ _ _ 0 rfl) aA ?_;refine fa env (Fo.frm _ _ _ _ 0 rfl) ?_;intro B v F;exact⟨rfl,F.now.1⟩
 refine aI 41 false (e:=.cmp .gtr (.x fun _=>a.n) (.l 1125899906842624)) (decide_eq_false h8) ?_;refine ga env (Fo.frm _ _ _ _ 0 rfl) aA ?_;refine⟨fun q=>?_,fun q=>?_⟩
 ·have h9:(A.tn:Int) > 16:=by simpa [BE.den,cmpB,IE.den] using q
  rw[bZ (decide_eq_false (fun h=>by omega))];refine ga env (Fo.frm _ _ _ _ 0 rfl) aA ?_;refine fa env (Fo.frm _ _ _ _ 0 rfl) ?_;intro B v F;exact⟨rfl,F.now.1⟩
 have h9:¬(A.tn:Int) > 16:=by simpa [BE.den,cmpB,IE.den] using q
 clear q;refine ga env (Fo.frm _ _ _ _ 0 rfl) aA ?_;rw[pS (decide_eq_true (by omega))];intro B v F;refine(qO a.com A.com v F.now.2.com).mono ?_;rintro e w2 ⟨rfl,hb⟩;cases hz:decide (a.com=fY) with
 | true =>
  refine⟨.b (.l true),_,rfl,(Fo.frm _ _ _ _ _ rfl).b,F.on hb,?_⟩;clear F hb;refine ga env (Fo.frm _ _ _ _ 1 rfl) aA ?_;refine fa env (Fo.frm _ _ _ _ 1 rfl) ?_;intro B v F;exact⟨rfl,F.now.1⟩
 | false =>
 refine⟨.b (.l false),_,rfl,(Fo.frm _ _ _ _ _ rfl).b,F.on hb,?_⟩;clear F hb;refine ga env (Fo.frm _ _ _ _ 1 rfl) aA ?_;intro B v F;refine(kS a.com A.com v F.now.2.com).mono ?_;rintro e w2 ⟨rfl,hb⟩;refine⟨.b (.x fun _=>bY a.com),_,rfl,(Fo.frm _ _ _ _ _ rfl).b,F.on hb,?_⟩;clear F hb;refine ga env (Fo.frm _ _ _ _ 1 rfl) aA ?_;refine fa env (Fo.frm _ _ _ _ 1 rfl) ?_;intro B v F;exact⟨rfl,F.now.1⟩

structure pF where
 s:Int
 m:Int
 el:Int
 bt:Int
 ev:Int
 rm:Int
deriving DecidableEq
def aJl (c:pF):List Value:=[.int .i64 c.s,.int .i64 c.m,.int .i64 c.el,.int .i64 c.bt,.int .i64 c.ev,.int .i64 c.rm]
def aAv (c:pF):List AV:=[.i .i64 (.x fun _=>c.s),.i .i64 (.x fun _=>c.m),.i .i64 (.x fun _=>c.el),.i .i64 (.x fun _=>c.bt),.i .i64 (.x fun _=>c.ev),.i .i64 (.x fun _=>c.rm)]
def rfB (el bt:Int):Bool:=decide (2<=el/\el<=64/\1<=bt/\bt<el)
def svB (el bt ev:Int):Bool:=rfB el bt&&decide (1<=ev/\ev<=48)
def lQ (c:pF):Bool:=decide (1<=c.s/\c.s<=7/\1<=c.m/\c.m<=c.s/\0<=c.rm/\c.rm<=1048576)&&svB c.el c.bt c.ev
theorem yV (sv:Value)(m:Nat)(el bt:Int)(w:World)(hr:Reads w .i64 sv (rng m))(h1:1<=m)(h7:m<=7):Calls Tryz.prog 134 #[.agg #[.int .i64 0,sv,.int .i64 el,.int .i64 bt]] w fun e w'=>e = .returned (.bool (rfB el bt))/\Below w.heap.size w w':=by
 obtain⟨a,c,rfl,hc⟩:=hr;have F0:Fo [] (fun _=>False) w (fun v=>Below w.heap.size w v/\Reads v .i64 (.slice a (rng m).length c) (rng m)) w []:=Fo.start nofun fun _ bv=>⟨bv,Reads.below (show Reads w .i64 (.slice a (rng m).length c) (rng m) from⟨a,c,rfl,hc⟩) bv⟩;clear hc;refine enter (fun _=>0) [.g [.i .i64 (.l 0),.sl (fun _=>a) (fun _=>(rng m).length) (fun _=>c),.i .i64 (.x fun _=>el),.i .i64 (.x fun _=>bt)]] [] Tryz.func134 rfl rfl F0 37 rfl ?_;refine ga env (Fo.frm _ _ _ _ 0 rfl) aA ?_;intro B v F;refine(aLR _ m v F.now.2 h1 h7).mono ?_;rintro e w2 ⟨rfl,hb⟩;refine⟨.b (.l true),_,rfl,(Fo.frm _ _ _ _ _ rfl).b,F.on hb,?_⟩;clear F hb h1 h7;refine ga env (Fo.frm _ _ _ _ 1 rfl) aA ?_;by_cases h1:el ≥ 2
 case neg =>
  refine aI 21 false (e:=.cmp .geq (.x fun _=>el) (.l 2)) (decide_eq_false h1) ?_;rw[rfB,decide_eq_false (fun h=>by omega)];refine ga env (Fo.frm _ _ _ _ 1 rfl) aA ?_;refine fa env (Fo.frm _ _ _ _ 1 rfl) ?_;intro B v F;exact⟨rfl,F.now.1⟩
 refine aI 21 true (e:=.cmp .geq (.x fun _=>el) (.l 2)) (decide_eq_true h1) ?_;refine ga env (Fo.frm _ _ _ _ 1 rfl) aA ?_;by_cases h2:el<=64
 case neg =>
  refine aI 26 false (e:=.cmp .leq (.x fun _=>el) (.l 64)) (decide_eq_false h2) ?_;rw[rfB,decide_eq_false (fun h=>by omega)];refine ga env (Fo.frm _ _ _ _ 1 rfl) aA ?_;refine fa env (Fo.frm _ _ _ _ 1 rfl) ?_;intro B v F;exact⟨rfl,F.now.1⟩
 refine aI 26 true (e:=.cmp .leq (.x fun _=>el) (.l 64)) (decide_eq_true h2) ?_;refine ga env (Fo.frm _ _ _ _ 1 rfl) aA ?_;by_cases h3:bt ≥ 1
 case neg =>
  refine aI 31 false (e:=.cmp .geq (.x fun _=>bt) (.l 1)) (decide_eq_false h3) ?_;rw[rfB,decide_eq_false (fun h=>by omega)];refine ga env (Fo.frm _ _ _ _ 1 rfl) aA ?_;refine fa env (Fo.frm _ _ _ _ 1 rfl) ?_;intro B v F;exact⟨rfl,F.now.1⟩
 refine aI 31 true (e:=.cmp .geq (.x fun _=>bt) (.l 1)) (decide_eq_true h3) ?_;refine ga env (Fo.frm _ _ _ _ 1 rfl) aA ?_;refine fa env (Fo.frm _ _ _ _ 1 rfl) ?_;intro B v F;refine⟨?_,F.now.1⟩;rw[rfB,decide_eq_decide.2 (show (2<=el/\el<=64/\1<=bt/\bt<el) ↔ bt<el from⟨fun h=>h.2.2.2,fun h=>⟨h1,h2,h3,h⟩⟩)];rfl
theorem uI (sv:Value)(m:Nat)(el bt ev:Int)(w:World)(hr:Reads w .i64 sv (rng m))(h1:1<=m)(h7:m<=7):Calls Tryz.prog 90 #[.agg #[.int .i64 0,sv,.int .i64 el,.int .i64 bt,.int .i64 ev]] w fun e w'=>e = .returned (.bool (svB el bt ev))/\Below w.heap.size w w':=by
 obtain⟨a,c,rfl,hc⟩:=hr;have F0:Fo [] (fun _=>False) w (fun v=>Below w.heap.size w v/\Reads v .i64 (.slice a (rng m).length c) (rng m)) w []:=Fo.start nofun fun _ bv=>⟨bv,Reads.below (show Reads w .i64 (.slice a (rng m).length c) (rng m) from⟨a,c,rfl,hc⟩) bv⟩;clear hc;refine enter (fun _=>0) [.g [.i .i64 (.l 0),.sl (fun _=>a) (fun _=>(rng m).length) (fun _=>c),.i .i64 (.x fun _=>el),.i .i64 (.x fun _=>bt),.i .i64 (.x fun _=>ev)]] [] Tryz.func90 rfl rfl F0 15 rfl ?_;refine ga env (Fo.frm _ _ _ _ 0 rfl) aA ?_;intro B v F;refine(yV _ m el bt v F.now.2 h1 h7).mono ?_;rintro e w2 ⟨rfl,hb⟩;unfold svB;cases rfB el bt with
 | false =>
  refine⟨.b (.l false),_,rfl,(Fo.frm _ _ _ _ _ rfl).b,F.on hb,?_⟩;clear F hb;refine ga env (Fo.frm _ _ _ _ 1 rfl) aA ?_;refine fa env (Fo.frm _ _ _ _ 1 rfl) ?_;intro B v F;exact⟨rfl,F.now.1⟩
 | true =>
 refine⟨.b (.l true),_,rfl,(Fo.frm _ _ _ _ _ rfl).b,F.on hb,?_⟩;clear F hb h1 h7;refine ga env (Fo.frm _ _ _ _ 1 rfl) aA ?_;by_cases h1:ev ≥ 1
 case neg =>
  refine aI 11 false (e:=.cmp .geq (.x fun _=>ev) (.l 1)) (decide_eq_false h1) ?_;rw[decide_eq_false (fun h=>by omega)];refine ga env (Fo.frm _ _ _ _ 1 rfl) aA ?_;refine fa env (Fo.frm _ _ _ _ 1 rfl) ?_;intro B v F;exact⟨rfl,F.now.1⟩
 refine aI 11 true (e:=.cmp .geq (.x fun _=>ev) (.l 1)) (decide_eq_true h1) ?_;refine ga env (Fo.frm _ _ _ _ 1 rfl) aA ?_;refine fa env (Fo.frm _ _ _ _ 1 rfl) ?_;intro B v F;refine⟨?_,F.now.1⟩;rw[decide_eq_decide.2 (show (1<=ev/\ev<=48) ↔ ev<=48 from⟨fun h=>h.2,fun h=>⟨h1,h⟩⟩)];rfl
theorem aIr (c:pF)(w:World):Calls Tryz.prog 42 #[.agg (aJl c).toArray] w fun e w'=>e = .returned (.bool (lQ c))/\Below w.heap.size w w':=by
 have F0:Fo [] (fun _=>False) w (fun v=>Below w.heap.size w v) w []:=Fo.start nofun fun _ bv=>bv;obtain⟨s,m,el,bt,ev,rm⟩:=c;unfold lQ;simp only;refine enter (fun _=>0) [.g (aAv ⟨s,m,el,bt,ev,rm⟩)] [] Tryz.func42 rfl rfl F0 37 rfl ?_;refine ga env (Fo.frm _ _ _ _ 0 rfl) aA ?_;by_cases h1:s ≥ 1
 case neg =>
  refine aI 6 false (e:=.cmp .geq (.x fun _=>s) (.l 1)) (decide_eq_false h1) ?_;rw[decide_eq_false (fun h=>by omega)];refine ga env (Fo.frm _ _ _ _ 0 rfl) aA ?_;refine fa env (Fo.frm _ _ _ _ 0 rfl) ?_;intro B v F;exact⟨rfl,F.bel⟩
 refine aI 6 true (e:=.cmp .geq (.x fun _=>s) (.l 1)) (decide_eq_true h1) ?_;refine ga env (Fo.frm _ _ _ _ 0 rfl) aA ?_;by_cases h2:s<=7
 case neg =>
  refine aI 11 false (e:=.cmp .leq (.x fun _=>s) (.l 7)) (decide_eq_false h2) ?_;rw[decide_eq_false (fun h=>by omega)];refine ga env (Fo.frm _ _ _ _ 0 rfl) aA ?_;refine fa env (Fo.frm _ _ _ _ 0 rfl) ?_;intro B v F;exact⟨rfl,F.bel⟩
 refine aI 11 true (e:=.cmp .leq (.x fun _=>s) (.l 7)) (decide_eq_true h2) ?_;refine ga env (Fo.frm _ _ _ _ 0 rfl) aA ?_;by_cases h3:m ≥ 1
 case neg =>
  refine aI 16 false (e:=.cmp .geq (.x fun _=>m) (.l 1)) (decide_eq_false h3) ?_;rw[decide_eq_false (fun h=>by omega)];refine ga env (Fo.frm _ _ _ _ 0 rfl) aA ?_;refine fa env (Fo.frm _ _ _ _ 0 rfl) ?_;intro B v F;exact⟨rfl,F.bel⟩
 refine aI 16 true (e:=.cmp .geq (.x fun _=>m) (.l 1)) (decide_eq_true h3) ?_;refine ga env (Fo.frm _ _ _ _ 0 rfl) aA ?_;by_cases h4:m<=s
 case neg =>
  refine aI 23 false (e:=.cmp .leq (.x fun _=>m) (.x fun _=>s)) (decide_eq_false h4) ?_;rw[decide_eq_false (fun h=>by omega)];refine ga env (Fo.frm _ _ _ _ 0 rfl) aA ?_;refine fa env (Fo.frm _ _ _ _ 0 rfl) ?_;intro B v F;exact⟨rfl,F.bel⟩
 refine aI 23 true (e:=.cmp .leq (.x fun _=>m) (.x fun _=>s)) (decide_eq_true h4) ?_;refine ga env (Fo.frm _ _ _ _ 0 rfl) aA ?_;by_cases h5:rm ≥ 0
 case neg =>
  refine aI 28 false (e:=.cmp .geq (.x fun _=>rm) (.l 0)) (decide_eq_false h5) ?_;rw[decide_eq_false (fun h=>by omega)];refine ga env (Fo.frm _ _ _ _ 0 rfl) aA ?_;refine fa env (Fo.frm _ _ _ _ 0 rfl) ?_;intro B v F;exact⟨rfl,F.bel⟩
 refine aI 28 true (e:=.cmp .geq (.x fun _=>rm) (.l 0)) (decide_eq_true h5) ?_;refine ga env (Fo.frm _ _ _ _ 0 rfl) aA ?_;by_cases h6:rm<=1048576
 case neg =>
  refine aI 33 false (e:=.cmp .leq (.x fun _=>rm) (.l 1048576)) (decide_eq_false h6) ?_;rw[decide_eq_false (fun h=>by omega)];refine ga env (Fo.frm _ _ _ _ 0 rfl) aA ?_;refine fa env (Fo.frm _ _ _ _ 0 rfl) ?_;intro B v F;exact⟨rfl,F.bel⟩
 refine aI 33 true (e:=.cmp .leq (.x fun _=>rm) (.l 1048576)) (decide_eq_true h6) ?_;refine ga env (Fo.frm _ _ _ _ 0 rfl) aA ?_;rw[decide_eq_true (⟨h1,h2,h3,h4,h5,h6⟩:1<=s/\s<=7/\1<=m/\m<=s/\0<=rm/\rm<=1048576),Bool.true_and];obtain⟨k,rfl⟩:=Int.eq_ofNat_of_zero_le (show 0<=m by omega);intro B v F;refine(aJg s el bt ev rm k v (by omega) (by omega)).mono ?_;rintro e w2 ⟨sv,rfl,hs,hb⟩;obtain⟨a,cc,rfl,hc⟩:=hs;refine⟨.g [.i .i64 (.l 0),.sl (fun _=>a) (fun _=>(rng k).length) (fun _=>cc),.i .i64 (.x fun _=>el),.i .i64 (.x fun _=>bt),.i .i64 (.x fun _=>ev)],_,rfl,(Fo.frm _ _ _ _ _ rfl).b,F.step hb (Z:=fun v=>Reads v .i64 (.slice a (rng k).length cc) (rng k)) (fun u bu=>Reads.below ⟨a,cc,rfl,hc⟩ bu),?_⟩;clear F hb hc;refine ga env (Fo.frm _ _ _ _ 1 rfl) aA ?_;intro B v F;refine(uI _ k el bt ev v F.now.1 (by omega) (by omega)).mono ?_;rintro e w2 ⟨rfl,hb⟩;refine⟨.b (.x fun _=>svB el bt ev),_,rfl,(Fo.frm _ _ _ _ _ rfl).b,F.on hb,?_⟩;clear F hb;refine ga env (Fo.frm _ _ _ _ 1 rfl) aA ?_;refine fa env (Fo.frm _ _ _ _ 1 rfl) ?_;intro B v F;exact⟨rfl,F.now.2⟩
theorem zG (sv:Value)(m:Nat)(el bt:Int)(w:World)(hr:Reads w .i64 sv (rng m))(h1:1<=m)(h7:m<=7):Calls Tryz.prog 138 #[.agg #[.int .i64 0,sv,.int .i64 el,.int .i64 bt]] w fun e w'=>e = .returned (.bool (rfB el bt))/\Below w.heap.size w w':=by
 obtain⟨a,c,rfl,hc⟩:=hr;have F0:Fo [] (fun _=>False) w (fun v=>Below w.heap.size w v/\Reads v .i64 (.slice a (rng m).length c) (rng m)) w []:=Fo.start nofun fun _ bv=>⟨bv,Reads.below (show Reads w .i64 (.slice a (rng m).length c) (rng m) from⟨a,c,rfl,hc⟩) bv⟩;clear hc;refine enter (fun _=>0) [.g [.i .i64 (.l 0),.sl (fun _=>a) (fun _=>(rng m).length) (fun _=>c),.i .i64 (.x fun _=>el),.i .i64 (.x fun _=>bt)]] [] Tryz.func138 rfl rfl F0 37 rfl ?_;refine ga env (Fo.frm _ _ _ _ 0 rfl) aA ?_;intro B v F;refine(aIT _ m v F.now.2 h1 h7).mono ?_;rintro e w2 ⟨rfl,hb⟩;refine⟨.b (.l true),_,rfl,(Fo.frm _ _ _ _ _ rfl).b,F.on hb,?_⟩;clear F hb h1 h7;refine ga env (Fo.frm _ _ _ _ 1 rfl) aA ?_;by_cases h1:el ≥ 2
 case neg =>
  refine aI 21 false (e:=.cmp .geq (.x fun _=>el) (.l 2)) (decide_eq_false h1) ?_;rw[rfB,decide_eq_false (fun h=>by omega)];refine ga env (Fo.frm _ _ _ _ 1 rfl) aA ?_;refine fa env (Fo.frm _ _ _ _ 1 rfl) ?_;intro B v F;exact⟨rfl,F.now.1⟩
 refine aI 21 true (e:=.cmp .geq (.x fun _=>el) (.l 2)) (decide_eq_true h1) ?_;refine ga env (Fo.frm _ _ _ _ 1 rfl) aA ?_;by_cases h2:el<=64
 case neg =>
  refine aI 26 false (e:=.cmp .leq (.x fun _=>el) (.l 64)) (decide_eq_false h2) ?_;rw[rfB,decide_eq_false (fun h=>by omega)];refine ga env (Fo.frm _ _ _ _ 1 rfl) aA ?_;refine fa env (Fo.frm _ _ _ _ 1 rfl) ?_;intro B v F;exact⟨rfl,F.now.1⟩
 refine aI 26 true (e:=.cmp .leq (.x fun _=>el) (.l 64)) (decide_eq_true h2) ?_;refine ga env (Fo.frm _ _ _ _ 1 rfl) aA ?_;by_cases h3:bt ≥ 1
 case neg =>
  refine aI 31 false (e:=.cmp .geq (.x fun _=>bt) (.l 1)) (decide_eq_false h3) ?_;rw[rfB,decide_eq_false (fun h=>by omega)];refine ga env (Fo.frm _ _ _ _ 1 rfl) aA ?_;refine fa env (Fo.frm _ _ _ _ 1 rfl) ?_;intro B v F;exact⟨rfl,F.now.1⟩
 refine aI 31 true (e:=.cmp .geq (.x fun _=>bt) (.l 1)) (decide_eq_true h3) ?_;refine ga env (Fo.frm _ _ _ _ 1 rfl) aA ?_;refine fa env (Fo.frm _ _ _ _ 1 rfl) ?_;intro B v F;refine⟨?_,F.now.1⟩;rw[rfB,decide_eq_decide.2 (show (2<=el/\el<=64/\1<=bt/\bt<el) ↔ bt<el from⟨fun h=>h.2.2.2,fun h=>⟨h1,h2,h3,h⟩⟩)];rfl
theorem uS (sv:Value)(m:Nat)(el bt ev:Int)(w:World)(hr:Reads w .i64 sv (rng m))(h1:1<=m)(h7:m<=7):Calls Tryz.prog 94 #[.agg #[.int .i64 0,sv,.int .i64 el,.int .i64 bt,.int .i64 ev]] w fun e w'=>e = .returned (.bool (svB el bt ev))/\Below w.heap.size w w':=by
 obtain⟨a,c,rfl,hc⟩:=hr;have F0:Fo [] (fun _=>False) w (fun v=>Below w.heap.size w v/\Reads v .i64 (.slice a (rng m).length c) (rng m)) w []:=Fo.start nofun fun _ bv=>⟨bv,Reads.below (show Reads w .i64 (.slice a (rng m).length c) (rng m) from⟨a,c,rfl,hc⟩) bv⟩;clear hc;refine enter (fun _=>0) [.g [.i .i64 (.l 0),.sl (fun _=>a) (fun _=>(rng m).length) (fun _=>c),.i .i64 (.x fun _=>el),.i .i64 (.x fun _=>bt),.i .i64 (.x fun _=>ev)]] [] Tryz.func94 rfl rfl F0 15 rfl ?_;refine ga env (Fo.frm _ _ _ _ 0 rfl) aA ?_;intro B v F;refine(zG _ m el bt v F.now.2 h1 h7).mono ?_;rintro e w2 ⟨rfl,hb⟩;unfold svB;cases rfB el bt with
 | false =>
  refine⟨.b (.l false),_,rfl,(Fo.frm _ _ _ _ _ rfl).b,F.on hb,?_⟩;clear F hb;refine ga env (Fo.frm _ _ _ _ 1 rfl) aA ?_;refine fa env (Fo.frm _ _ _ _ 1 rfl) ?_;intro B v F;exact⟨rfl,F.now.1⟩
 | true =>
 refine⟨.b (.l true),_,rfl,(Fo.frm _ _ _ _ _ rfl).b,F.on hb,?_⟩;clear F hb h1 h7;refine ga env (Fo.frm _ _ _ _ 1 rfl) aA ?_;by_cases h1:ev ≥ 1
 case neg =>
  refine aI 11 false (e:=.cmp .geq (.x fun _=>ev) (.l 1)) (decide_eq_false h1) ?_;rw[decide_eq_false (fun h=>by omega)];refine ga env (Fo.frm _ _ _ _ 1 rfl) aA ?_;refine fa env (Fo.frm _ _ _ _ 1 rfl) ?_;intro B v F;exact⟨rfl,F.now.1⟩
 refine aI 11 true (e:=.cmp .geq (.x fun _=>ev) (.l 1)) (decide_eq_true h1) ?_;refine ga env (Fo.frm _ _ _ _ 1 rfl) aA ?_;refine fa env (Fo.frm _ _ _ _ 1 rfl) ?_;intro B v F;refine⟨?_,F.now.1⟩;rw[decide_eq_decide.2 (show (1<=ev/\ev<=48) ↔ ev<=48 from⟨fun h=>h.2,fun h=>⟨h1,h⟩⟩)];rfl
theorem aIO (c:pF)(w:World):Calls Tryz.prog 46 #[.agg (aJl c).toArray] w fun e w'=>e = .returned (.bool (lQ c))/\Below w.heap.size w w':=by
 have F0:Fo [] (fun _=>False) w (fun v=>Below w.heap.size w v) w []:=Fo.start nofun fun _ bv=>bv;obtain⟨s,m,el,bt,ev,rm⟩:=c;unfold lQ;simp only;refine enter (fun _=>0) [.g (aAv ⟨s,m,el,bt,ev,rm⟩)] [] Tryz.func46 rfl rfl F0 37 rfl ?_;refine ga env (Fo.frm _ _ _ _ 0 rfl) aA ?_;by_cases h1:s ≥ 1
 case neg =>
  refine aI 6 false (e:=.cmp .geq (.x fun _=>s) (.l 1)) (decide_eq_false h1) ?_;rw[decide_eq_false (fun h=>by omega)];refine ga env (Fo.frm _ _ _ _ 0 rfl) aA ?_;refine fa env (Fo.frm _ _ _ _ 0 rfl) ?_;intro B v F;exact⟨rfl,F.bel⟩
 refine aI 6 true (e:=.cmp .geq (.x fun _=>s) (.l 1)) (decide_eq_true h1) ?_;refine ga env (Fo.frm _ _ _ _ 0 rfl) aA ?_;by_cases h2:s<=7
 case neg =>
  refine aI 11 false (e:=.cmp .leq (.x fun _=>s) (.l 7)) (decide_eq_false h2) ?_;rw[decide_eq_false (fun h=>by omega)];refine ga env (Fo.frm _ _ _ _ 0 rfl) aA ?_;refine fa env (Fo.frm _ _ _ _ 0 rfl) ?_;intro B v F;exact⟨rfl,F.bel⟩
 refine aI 11 true (e:=.cmp .leq (.x fun _=>s) (.l 7)) (decide_eq_true h2) ?_;refine ga env (Fo.frm _ _ _ _ 0 rfl) aA ?_;by_cases h3:m ≥ 1
 case neg =>
  refine aI 16 false (e:=.cmp .geq (.x fun _=>m) (.l 1)) (decide_eq_false h3) ?_;rw[decide_eq_false (fun h=>by omega)];refine ga env (Fo.frm _ _ _ _ 0 rfl) aA ?_;refine fa env (Fo.frm _ _ _ _ 0 rfl) ?_;intro B v F;exact⟨rfl,F.bel⟩
 refine aI 16 true (e:=.cmp .geq (.x fun _=>m) (.l 1)) (decide_eq_true h3) ?_;refine ga env (Fo.frm _ _ _ _ 0 rfl) aA ?_;by_cases h4:m<=s
 case neg =>
  refine aI 23 false (e:=.cmp .leq (.x fun _=>m) (.x fun _=>s)) (decide_eq_false h4) ?_;rw[decide_eq_false (fun h=>by omega)];refine ga env (Fo.frm _ _ _ _ 0 rfl) aA ?_;refine fa env (Fo.frm _ _ _ _ 0 rfl) ?_;intro B v F;exact⟨rfl,F.bel⟩
 refine aI 23 true (e:=.cmp .leq (.x fun _=>m) (.x fun _=>s)) (decide_eq_true h4) ?_;refine ga env (Fo.frm _ _ _ _ 0 rfl) aA ?_;by_cases h5:rm ≥ 0
 case neg =>
  refine aI 28 false (e:=.cmp .geq (.x fun _=>rm) (.l 0)) (decide_eq_false h5) ?_;rw[decide_eq_false (fun h=>by omega)];refine ga env (Fo.frm _ _ _ _ 0 rfl) aA ?_;refine fa env (Fo.frm _ _ _ _ 0 rfl) ?_;intro B v F;exact⟨rfl,F.bel⟩
 refine aI 28 true (e:=.cmp .geq (.x fun _=>rm) (.l 0)) (decide_eq_true h5) ?_;refine ga env (Fo.frm _ _ _ _ 0 rfl) aA ?_;by_cases h6:rm<=1048576
 case neg =>
  refine aI 33 false (e:=.cmp .leq (.x fun _=>rm) (.l 1048576)) (decide_eq_false h6) ?_;rw[decide_eq_false (fun h=>by omega)];refine ga env (Fo.frm _ _ _ _ 0 rfl) aA ?_;refine fa env (Fo.frm _ _ _ _ 0 rfl) ?_;intro B v F;exact⟨rfl,F.bel⟩
 refine aI 33 true (e:=.cmp .leq (.x fun _=>rm) (.l 1048576)) (decide_eq_true h6) ?_;refine ga env (Fo.frm _ _ _ _ 0 rfl) aA ?_;rw[decide_eq_true (⟨h1,h2,h3,h4,h5,h6⟩:1<=s/\s<=7/\1<=m/\m<=s/\0<=rm/\rm<=1048576),Bool.true_and];obtain⟨k,rfl⟩:=Int.eq_ofNat_of_zero_le (show 0<=m by omega);intro B v F;refine(aKj s el bt ev rm k v (by omega) (by omega)).mono ?_;rintro e w2 ⟨sv,rfl,hs,hb⟩;obtain⟨a,cc,rfl,hc⟩:=hs;refine⟨.g [.i .i64 (.l 0),.sl (fun _=>a) (fun _=>(rng k).length) (fun _=>cc),.i .i64 (.x fun _=>el),.i .i64 (.x fun _=>bt),.i .i64 (.x fun _=>ev)],_,rfl,(Fo.frm _ _ _ _ _ rfl).b,F.step hb (Z:=fun v=>Reads v .i64 (.slice a (rng k).length cc) (rng k)) (fun u bu=>Reads.below ⟨a,cc,rfl,hc⟩ bu),?_⟩;clear F hb hc;refine ga env (Fo.frm _ _ _ _ 1 rfl) aA ?_;intro B v F;refine(uS _ k el bt ev v F.now.1 (by omega) (by omega)).mono ?_;rintro e w2 ⟨rfl,hb⟩;refine⟨.b (.x fun _=>svB el bt ev),_,rfl,(Fo.frm _ _ _ _ _ rfl).b,F.on hb,?_⟩;clear F hb;refine ga env (Fo.frm _ _ _ _ 1 rfl) aA ?_;refine fa env (Fo.frm _ _ _ _ 1 rfl) ?_;intro B v F;exact⟨rfl,F.now.2⟩

structure aW (w:World)(L:List (aL × aT))(a:Option Addr)(n c:Nat):Prop where
 row:aM w 19 (.slice a n c) (L.map fun p=>cJ p.1 p.2)
 ln:L.length=n
 sm:n<=2147483648
 each:∀p ∈ L,bO w p.1 p.2
theorem aW.below {w w':World}{L:List (aL × aT)}{a:Option Addr}{n c:Nat}(h:aW w L a n c)(hb:Below w.heap.size w w'):aW w' L a n c:=⟨h.row.below hb,h.ln,h.sm,fun p hp=>(h.each p hp).below hb⟩
theorem aW.nil (w:World):aW w [] none 0 0 where
 row:=by
  show aM w 19 (.slice none 0 0) [];exact aM.nil w 19
 ln:=rfl
 sm:=by omega
 each:=fun p hp=>by cases hp
theorem aW.base {w:World}{L:List (aL × aT)}{a:Option Addr}{n c j:Nat}(h:aW w L a n c)(hj:j<n):∃b o,a=some ⟨b,o,none⟩:=by
 obtain⟨b,o,e,_⟩:=h.row.at (j:=j) (by rw[List.length_map,h.ln];exact hj);exact⟨b,o,e⟩
theorem aW.range {w:World}{L:List (aL × aT)}{b o n c j:Nat}(h:aW w L (some ⟨b,o,none⟩) n c)(hj:j<L.length):w.rangeAt b (o+j*19) (cJ L[j].1 L[j].2):=by
 have:=h.row.range (j:=j) (by rw[List.length_map];exact hj)
 rwa [List.getElem_map]at this
structure bU where
 cfg:pF
 acts:List aL
 rounds:Int
 by':Int
deriving DecidableEq
def gR (s:bU)(a:Option Addr)(n c:Nat):List Value:=aJl s.cfg ++ [.slice a n c,.int .i64 s.rounds,.int .i64 s.by']
def bH (s:bU)(a:Option Addr)(n c:Nat):List AV:=aAv s.cfg ++ [.sl (fun _=>a) (fun _=>n) (fun _=>c),.i .i64 (.x fun _=>s.rounds),.i .i64 (.x fun _=>s.by')]
structure aN (w:World)(s:bU)(L:List (aL × aT))(a:Option Addr)(n c:Nat):Prop where
 acts:aW w L a n c
 eq:s.acts=L.map (·.1)
theorem aN.below {w w':World}{s:bU}{L:List (aL × aT)}{a:Option Addr}{n c:Nat}(h:aN w s L a n c)(hb:Below w.heap.size w w'):aN w' s L a n c:=⟨h.acts.below hb,h.eq⟩
def eZ (s:bU):Bool:=lQ s.cfg&&(decide (0<=s.rounds/\s.rounds<=200/\0<=s.by'/\s.by'<=1125899906842624/\s.acts.length<=4096)&&s.acts.all dC)
theorem sS {α:Type}{l:List α}{p:α->Bool}{j:Nat}(hj:j<l.length)(h:(l.take j).all p=true)(k:p l[j]=true):(l.take (j+1)).all p=true:=by
 rw[List.take_succ_eq_append_getElem hj,List.all_append,h];simp[k]
theorem aAm {α:Type}{l:List α}{p:α->Bool}{j:Nat}(hj:j<l.length)(k:p l[j]=false):l.all p=false:=by
 rw[Bool.eq_false_iff];intro h;rw[List.all_eq_true]at h;rw[h _ (List.getElem_mem hj)]at k;cases k
theorem yW (a:aL)(A:aT)(w:World)(h:bO w a A):Calls Tryz.prog 44 #[.agg (cJ a A).toArray] w fun e w'=>e = .returned (.bool (!dC a))/\Below w.heap.size w w':=by
 have F0:Fe 0 (fun v=>Below w.heap.size w v/\bO v a A) w []:=Fe.start fun _ bv=>⟨bv,h.below bv⟩;clear h;refine enter (fun _=>0) [.g (cN a A)] [] Tryz.func44 rfl rfl F0 5 rfl ?_;refine ga env (Fe.frm 0 _) aA ?_;intro B v F;refine(aIp a A v F.now.2).mono ?_;rintro e w2 ⟨rfl,hb⟩;refine⟨.b (.x fun _=>dC a),_,rfl,(Fe.frm 1 _).b,F.on hb,?_⟩;clear F hb;refine ga env (Fe.frm 1 _) aA ?_;refine fa env (Fe.frm 1 _) ?_;intro B v F;exact⟨rfl,F.now.1⟩
def sxL (j:Nat):List (Nat × AV):=[(1,.p 0 0),(3,.i .i64 (.x fun _=>(j:Int)))]
def ixL (a:Option Addr)(n c j:Nat):List (Nat × AV):=[(0,.sl (fun _=>a) (fun _=>n) (fun _=>c)),(1,.f (.func 44) [] []),(7,.i .i64 (.x fun _=>(n:Int))),(8,.i .i64 (.x fun _=>(j:Int)))]
theorem aIv (L:List (aL × aT))(a:Option Addr)(n c:Nat)(w:World)(h:aW w L a n c):Calls Tryz.prog 92 #[.slice a n c,.func (.func 44) #[] #[]] w fun e w'=>∃r:Int,e = .returned (.int .i64 r)/\decide (r ≥ 0) = !(L.all fun p=>dC p.1)/\Below w.heap.size w w':=by
 have F0:Fe 0 (fun v=>Below w.heap.size w v/\aW v L a n c) w []:=Fe.start fun _ bv=>⟨bv,h.below bv⟩;refine enter (fun _=>0) [.sl (fun _=>a) (fun _=>n) (fun _=>c),.f (.func 44) [] []] [] Tryz.func92 rfl rfl F0 17 rfl ?_;refine ga env (Fe.frm 0 _) aA ?_;have hn:=h.ln;have hsm:=h.sm;refine jB (Fe 0 (fun v=>Below w.heap.size w v/\aW v L a n c)) (ixL a n c) 19 n (fun j=>(L.take j).all (fun p=>dC p.1)=true) rfl (fun B=>⟨rfl,rfl,rfl,rfl,trivial⟩) (fun _ _ h=>h) ?_;intro i J hJ;refine ga env (Fe.frm 0 _) aA ?_;refine⟨fun q=>?_,fun q=>?_⟩
 ·have hlt:i.j<n:=by simpa [BE.den,cmpB,IE.den] using q
  clear q;have hlL:i.j<L.length:=hn ▸ hlt;obtain⟨b,o,rfl⟩:=h.base hlt;have hrg:=fun v (hv:aW v L (some ⟨b,o,none⟩) n c)=>hv.range hlL;have hpm:=List.getElem_mem hlL;generalize hpe:L[i.j]=p at hrg hpm ⊢;refine ga env (Fe.frm 0 _) aA ?_;refine aK (.pa fun _=>⟨b,o+i.j*19,none⟩) (fun B v F=>aS (e:=76) (n:=19) rfl Tryz.underlying26 (by kernel_rfl) (by rw[St.aB];rfl) (by rw[St.aB];rfl) hlt) ?_;refine ga env (Fe.frm 0 _) aA ?_;refine aK (.g (cN p.1 p.2)) (fun B v F=>cC (cs:=cJ p.1 p.2) (b:=b) (off:=o+i.j*19) rfl (by rw[St.aB];rfl) (hrg _ F.now.2) Tryz.underlying76 rfl (by kernel_rfl)) ?_;refine ga env (Fe.frm 0 _) aA ?_;intro B v F;refine(yW p.1 p.2 v (F.now.2.each _ hpm)).mono ?_;rintro e w2 ⟨rfl,hb⟩;cases hok:dC p.1 with
  | false =>
   refine⟨.b (.l true),_,rfl,(Fe.frm 0 _).b,F.on hb,?_⟩;clear F hb;refine ga env (Fe.frm 0 _) aA ?_;refine fa env (Fe.frm 0 _) ?_;intro B v F;refine⟨i.j,rfl,?_,F.now.1⟩;rw[aAm (p:=fun p:aL × aT=>dC p.1) hlL (hpe ▸ hok)];exact decide_eq_true (Int.natCast_nonneg _)
  | true =>
   refine⟨.b (.l false),_,rfl,(Fe.frm 0 _).b,F.on hb,?_⟩;clear F hb;refine ga env (Fe.frm 0 _) aA ?_;refine lI hJ hlt (sS hlL i.hp (hpe ▸ hok)) (fun B=>⟨rfl,rfl,rfl,?_,trivial⟩) (fun _ _ h=>h);simp only[AV.den,IE.den,getT];rw[wrI hlt (by omega)]
 ·have hje:i.j=n:=by
   have:¬i.j<n:=by simpa [BE.den,cmpB,IE.den] using q
   have:=i.hj;omega
  have hall:=i.hp;rw[hje,<- hn,List.take_length]at hall;clear q;refine ga env (Fe.frm 0 _) aA ?_;refine fa env (Fe.frm 0 _) ?_;intro B v F;exact⟨-1,rfl,by rw[hall];rfl,F.now.1⟩
theorem pL (L:List (aL × aT))(a:Option Addr)(n c:Nat)(w:World)(h:aW w L a n c):Calls Tryz.prog 43 #[.slice a n c,.func (.func 44) #[] #[]] w fun e w'=>e = .returned (.bool (!(L.all fun p=>dC p.1)))/\Below w.heap.size w w':=by
 have F0:Fe 0 (fun v=>Below w.heap.size w v/\aW v L a n c) w []:=Fe.start fun _ bv=>⟨bv,h.below bv⟩;clear h;refine enter (fun _=>0) [.sl (fun _=>a) (fun _=>n) (fun _=>c),.f (.func 44) [] []] [] Tryz.func43 rfl rfl F0 7 rfl ?_;refine ga env (Fe.frm 0 _) aA ?_;intro B v F;refine(aIv L a n c v F.now.2).mono ?_;rintro e w2 ⟨r,rfl,hr,hb⟩;refine⟨.i .i64 (.x fun _=>r),_,rfl,(Fe.frm 0 _).b,F.on hb,?_⟩;clear F hb;refine ga env (Fe.frm 0 _) aA ?_;refine fa env (Fe.frm 0 _) ?_;intro B v F;rw[<- hr];exact⟨rfl,F.now.1⟩
theorem lX (s:bU)(L:List (aL × aT))(a:Option Addr)(n c:Nat)(w:World)(h:aN w s L a n c):Calls Tryz.prog 14 #[.agg (gR s a n c).toArray] w fun e w'=>e = .returned (.bool (eZ s))/\Below w.heap.size w w':=by
 have F0:Fe 0 (fun v=>Below w.heap.size w v/\aW v L a n c) w []:=Fe.start fun _ bv=>⟨bv,h.acts.below bv⟩;have hn:=h.acts.ln;have hsm:=h.acts.sm;have he:=h.eq;obtain⟨cfg,acts,rounds,by1⟩:=s;simp only at he;subst he;clear h;refine enter (fun _=>0) [.g (bH ⟨cfg,L.map (·.1),rounds,by1⟩ a n c)] [] Tryz.func14 rfl rfl F0 36 rfl ?_
 refine ga env (Fe.frm 0 _) aA ?_;intro B v F;refine(aIr cfg v).mono ?_;rintro e w2 ⟨rfl,hb⟩;unfold eZ;simp only;cases lQ cfg with
 | false =>
  refine⟨.b (.l false),_,rfl,(Fe.frm 1 _).b,F.on hb,?_⟩;clear F hb;refine ga env (Fe.frm 1 _) aA ?_;refine fa env (Fe.frm 1 _) ?_;intro B v F;exact⟨rfl,F.now.1⟩
 | true =>
 refine⟨.b (.l true),_,rfl,(Fe.frm 1 _).b,F.on hb,?_⟩;clear F hb;have hl:(L.map (·.1)).length=n:=by rw[List.length_map];exact hn
 refine ga env (Fe.frm 1 _) aA ?_;by_cases h1:rounds<0
 ·rw[decide_eq_false (fun h=>by omega)];refine aI 12 true (e:=.cmp .lss (.x fun _=>rounds) (.l 0)) (decide_eq_true h1) ?_;refine ga env (Fe.frm 1 _) aA ?_;refine fa env (Fe.frm 1 _) ?_;intro B v F;exact⟨rfl,F.now.1⟩
 refine aI 12 false (e:=.cmp .lss (.x fun _=>rounds) (.l 0)) (decide_eq_false h1) ?_;refine ga env (Fe.frm 1 _) aA ?_;by_cases h2:rounds > 200
 ·rw[decide_eq_false (fun h=>by omega)];refine aI 17 true (e:=.cmp .gtr (.x fun _=>rounds) (.l 200)) (decide_eq_true h2) ?_;refine ga env (Fe.frm 1 _) aA ?_;refine fa env (Fe.frm 1 _) ?_;intro B v F;exact⟨rfl,F.now.1⟩
 refine aI 17 false (e:=.cmp .gtr (.x fun _=>rounds) (.l 200)) (decide_eq_false h2) ?_;refine ga env (Fe.frm 1 _) aA ?_;by_cases h3:by1<0
 ·rw[decide_eq_false (fun h=>by omega)];refine aI 22 true (e:=.cmp .lss (.x fun _=>by1) (.l 0)) (decide_eq_true h3) ?_;refine ga env (Fe.frm 1 _) aA ?_;refine fa env (Fe.frm 1 _) ?_;intro B v F;exact⟨rfl,F.now.1⟩
 refine aI 22 false (e:=.cmp .lss (.x fun _=>by1) (.l 0)) (decide_eq_false h3) ?_;refine ga env (Fe.frm 1 _) aA ?_;by_cases h4:by1 > 1125899906842624
 ·rw[decide_eq_false (fun h=>by omega)];refine aI 27 true (e:=.cmp .gtr (.x fun _=>by1) (.l 1125899906842624)) (decide_eq_true h4) ?_;refine ga env (Fe.frm 1 _) aA ?_;refine fa env (Fe.frm 1 _) ?_;intro B v F;exact⟨rfl,F.now.1⟩
 refine aI 27 false (e:=.cmp .gtr (.x fun _=>by1) (.l 1125899906842624)) (decide_eq_false h4) ?_;refine ga env (Fe.frm 1 _) aA ?_;refine⟨fun q=>?_,fun q=>?_⟩
 ·have h5:(n:Int) > 4096:=by simpa [BE.den,cmpB,IE.den] using q
  rw[decide_eq_false (fun h=>by omega)];refine ga env (Fe.frm 1 _) aA ?_;refine fa env (Fe.frm 1 _) ?_;intro B v F;exact⟨rfl,F.now.1⟩
 have h5:¬((n:Int) > 4096):=by simpa [BE.den,cmpB,IE.den] using q
 clear q;refine ga env (Fe.frm 1 _) aA ?_;rw[decide_eq_true (by omega),Bool.true_and,Bool.true_and,List.all_map];intro B v F;refine(pL L a n c v F.now.2).mono ?_;rintro e w2 ⟨rfl,hb⟩;refine⟨.b (.x fun _=>!(L.all fun p=>dC p.1)),_,rfl,(Fe.frm 1 _).b,F.on hb,?_⟩;clear F hb;refine ga env (Fe.frm 1 _) aA ?_;refine fa env (Fe.frm 1 _) ?_;intro B v F;refine⟨?_,F.now.1⟩;show Ending.returned (.bool !(!(L.all fun p=>dC p.1)))=_;rw[Bool.not_not];rfl
theorem jX (s:bU)(L:List (aL × aT))(a:Option Addr)(n c:Nat)(w:World)(h:aN w s L a n c):Calls Tryz.prog 15 #[.agg (gR s a n c).toArray] w fun e w'=>e = .returned (.bool (eZ s))/\Below w.heap.size w w':=by
 have F0:Fe 0 (fun v=>Below w.heap.size w v/\aW v L a n c) w []:=Fe.start fun _ bv=>⟨bv,h.acts.below bv⟩;have hn:=h.acts.ln;have hsm:=h.acts.sm;have he:=h.eq;have h0:=h.acts;obtain⟨cfg,acts,rounds,by1⟩:=s;simp only at he;subst he;clear h;refine enter (fun _=>0) [.g (bH ⟨cfg,L.map (·.1),rounds,by1⟩ a n c)] [] Tryz.func15 rfl rfl F0 47 rfl ?_
 refine ga env (Fe.frm 0 _) aA ?_;intro B v F;refine(aIO cfg v).mono ?_;rintro e w2 ⟨rfl,hb⟩;unfold eZ;simp only;cases lQ cfg with
 | false =>
  refine⟨.b (.l false),_,rfl,(Fe.frm 1 _).b,F.on hb,?_⟩;clear F hb;refine ga env (Fe.frm 1 _) aA ?_;refine fa env (Fe.frm 1 _) ?_;intro B v F;exact⟨rfl,F.now.1⟩
 | true =>
 refine⟨.b (.l true),_,rfl,(Fe.frm 1 _).b,F.on hb,?_⟩;clear F hb;have hl:(L.map (·.1)).length=n:=by rw[List.length_map];exact hn
 refine ga env (Fe.frm 1 _) aA ?_;by_cases h1:rounds<0
 ·rw[decide_eq_false (fun h=>by omega)];refine aI 13 true (e:=.cmp .lss (.x fun _=>rounds) (.l 0)) (decide_eq_true h1) ?_;refine ga env (Fe.frm 1 _) aA ?_;refine fa env (Fe.frm 1 _) ?_;intro B v F;exact⟨rfl,F.now.1⟩
 refine aI 13 false (e:=.cmp .lss (.x fun _=>rounds) (.l 0)) (decide_eq_false h1) ?_;refine ga env (Fe.frm 1 _) aA ?_;by_cases h2:rounds > 200
 ·rw[decide_eq_false (fun h=>by omega)];refine aI 18 true (e:=.cmp .gtr (.x fun _=>rounds) (.l 200)) (decide_eq_true h2) ?_;refine ga env (Fe.frm 1 _) aA ?_;refine fa env (Fe.frm 1 _) ?_;intro B v F;exact⟨rfl,F.now.1⟩
 refine aI 18 false (e:=.cmp .gtr (.x fun _=>rounds) (.l 200)) (decide_eq_false h2) ?_;refine ga env (Fe.frm 1 _) aA ?_;by_cases h3:by1<0
 ·rw[decide_eq_false (fun h=>by omega)];refine aI 23 true (e:=.cmp .lss (.x fun _=>by1) (.l 0)) (decide_eq_true h3) ?_;refine ga env (Fe.frm 1 _) aA ?_;refine fa env (Fe.frm 1 _) ?_;intro B v F;exact⟨rfl,F.now.1⟩
 refine aI 23 false (e:=.cmp .lss (.x fun _=>by1) (.l 0)) (decide_eq_false h3) ?_;refine ga env (Fe.frm 1 _) aA ?_;by_cases h4:by1 > 1125899906842624
 ·rw[decide_eq_false (fun h=>by omega)];refine aI 28 true (e:=.cmp .gtr (.x fun _=>by1) (.l 1125899906842624)) (decide_eq_true h4) ?_;refine ga env (Fe.frm 1 _) aA ?_;refine fa env (Fe.frm 1 _) ?_;intro B v F;exact⟨rfl,F.now.1⟩
 refine aI 28 false (e:=.cmp .gtr (.x fun _=>by1) (.l 1125899906842624)) (decide_eq_false h4) ?_;refine ga env (Fe.frm 1 _) aA ?_;refine⟨fun q=>?_,fun q=>?_⟩
 ·have h5:(n:Int) > 4096:=by simpa [BE.den,cmpB,IE.den] using q
  rw[decide_eq_false (fun h=>by omega)];refine ga env (Fe.frm 1 _) aA ?_;refine fa env (Fe.frm 1 _) ?_;intro B v F;exact⟨rfl,F.now.1⟩
 have h5:¬((n:Int) > 4096):=by simpa [BE.den,cmpB,IE.den] using q
 clear q;refine ga env (Fe.frm 1 _) aA ?_;rw[decide_eq_true (by omega),Bool.true_and,Bool.true_and,List.all_map];refine jB (Fe 1 (fun v=>Below w.heap.size w v/\aW v L a n c)) sxL 48 n (fun j=>(L.take j).all (fun p=>dC p.1)=true) rfl (fun B=>⟨rfl,rfl,trivial⟩) (fun _ _ h=>h) ?_;intro i J hJ;refine ga env (Fe.frm 1 _) aA ?_;refine⟨fun q=>?_,fun q=>?_⟩
 ·have hlt:i.j<n:=by simpa [BE.den,cmpB,IE.den] using q
  clear q;have hlL:i.j<L.length:=hn ▸ hlt;obtain⟨b,o,rfl⟩:=h0.base hlt;have hrg:=fun v (hv:aW v L (some ⟨b,o,none⟩) n c)=>hv.range hlL;have hpm:=List.getElem_mem hlL;generalize hpe:L[i.j]=p at hrg hpm ⊢;refine ga env (Fe.frm 1 _) aA ?_;refine aK (.pa fun _=>⟨b,o+i.j*19,none⟩) (fun B v F=>aS (e:=86) (n:=19) rfl Tryz.underlying33 (by kernel_rfl) (by rw[St.aB];rfl) (by rw[St.aB];rfl) hlt) ?_;refine ga env (Fe.frm 1 _) aA ?_;refine aK (.g (cN p.1 p.2)) (fun B v F=>cC (cs:=cJ p.1 p.2) (b:=b) (off:=o+i.j*19) rfl (by rw[St.aB];rfl) (hrg _ F.now.2) Tryz.underlying86 rfl (by kernel_rfl)) ?_;refine ga env (Fe.frm 1 _) aA ?_;intro B v F;refine(aIN p.1 p.2 v (F.now.2.each _ hpm)).mono ?_;rintro e w2 ⟨rfl,hb⟩;cases hok:dC p.1 with
  | false =>
   refine⟨.b (.l false),_,rfl,(Fe.frm 1 _).b,F.on hb,?_⟩;clear F hb;refine ga env (Fe.frm 1 _) aA ?_;refine fa env (Fe.frm 1 _) ?_;intro B v F;refine⟨?_,F.now.1⟩;rw[show (L.all (dC ∘ fun p=>p.1))=false from aAm (p:=fun p:aL × aT=>dC p.1) hlL (hpe ▸ hok)];rfl
  | true =>
   refine⟨.b (.l true),_,rfl,(Fe.frm 1 _).b,F.on hb,?_⟩;clear F hb;refine ga env (Fe.frm 1 _) aA ?_;refine lI hJ hlt (sS hlL i.hp (hpe ▸ hok)) (fun B=>⟨rfl,?_,trivial⟩) (fun _ _ h=>h);simp only[AV.den,IE.den,getT];rw[wrI hlt (by omega)]
 ·have hje:i.j=n:=by
   have:¬i.j<n:=by simpa [BE.den,cmpB,IE.den] using q
   have:=i.hj;omega
  have hall:=i.hp;rw[hje,<- hn,List.take_length]at hall;clear q;refine ga env (Fe.frm 1 _) aA ?_;refine fa env (Fe.frm 1 _) ?_;intro B v F;refine⟨?_,F.now.1⟩;rw[show (L.all (dC ∘ fun p=>p.1))=true from hall];rfl
end Go.Proofs.YtgeihgombjbkbaaGreat
namespace Go.Proofs.Own
open Go Go.RowKit
section
variable {P:Program} {Q:Exit->Act->World->Prop} {k8:KB} {F:World->Bx->Prop} {s:St} {k:List KF} {b rb:Nat} {w0 w w':World} {R Z R' Z':World->Prop} {e:TypeId} {sz:Nat} {v:Value} {rs:List (List Value)} {L:Bx}
theorem aLK (f:Fr (fun _=>False) w0 w L R)(hb:Below w.heap.size w w')(e:TypeId)(sz:Nat)(hbs:w.heap.size<=b)(hlt:b<w'.heap.size)(hrl:rb<w'.heap.size)(hne:∀p ∈ L,p.1≠rb)
  (hz:∀U:Nat->Prop,¬U b -> ¬U rb->Sf U w' Z'):FrD b rb w0 (fun _=>True) Z' e sz (.slice none 0 0) [] w' L:=by
 have hw:=f.bel.size;have hr:∀k,k ∈ L.map (·.1)->w0.heap.size<=k/\k<w.heap.size/\k≠rb:=fun k hk=>by
  obtain⟨p,hp,rfl⟩:=List.mem_map.1 hk;exact⟨(f.rng p hp).1,(f.rng p hp).2,hne p hp⟩
 refine⟨fun i p hp=>(f.box i p hp).below hb,f.inj,fun k hk=>?_,⟨hlt,hrl⟩,?_,dZ.nil _ _ _ _,nofun,fun _ _=>trivial,?_⟩
 ·have:=hr k hk;exact⟨this.1,by omega,this.2.2⟩
 ·exact Kept.aQ (f.bel.trans (hb.mono hw)) (fun k h1 h2=>by omega)
 ·refine hz _ (fun h=>?_) (fun h=>?_)
  ·rcases h with h|h
   ·cases h
   ·have:=hr _ h;omega
  ·rcases h with h|h
   ·cases h
   ·exact(hr _ h).2.2 rfl
theorem mW {bx:List (List AV)}(F2:World->Bx->Prop){c:Cf}(h1:∀B w,F w (mkB B 0 s.bx)->F2 w (mkB B 0 bx))(h:Ok P Q F2 c ⟨s.tm,bx⟩ k)(hc:aIw c=true:=by rfl):Ok P Q F c s k:=fun B w H=>by
 have q:=h B w (h1 B w H);cases c with
 | code c=>exact q
 | ops l r=>exact q
 | ex e=>exact q
 | pl=>cases hc
 | hd=>cases hc
def Hd (b0:Nat)(F:World->Bx->Prop):World->Bx->Prop:=fun w L=>F w L/\L.head?.map (·.1)=some b0
theorem Hd.frm {b0:Nat}(h:Frm F k8):Frm (Hd b0 F) k8:=by
 refine⟨fun H _ _ hi=>h.box H.1 hi,fun {w L} H {i b o c vs} hi hl h8 hr=>⟨h.set H.1 hi hl h8 hr,?_⟩,fun {w L} H {c t} h8=>⟨h.new H.1 h8,?_⟩,fun H=>⟨h.drew H.1,H.2⟩⟩
 ·have h2:=H.2;cases L with
  | nil=>cases hi
  | cons p L =>
   cases i with
   | zero=>cases hi;exact h2
   | succ i=>exact h2
 ·have h2:=H.2;cases L with
  | nil=>cases h2
  | cons p L=>exact h2
theorem nF {c:Cf}(j:Nat)(a:AV)(hk:Ok P Q F c ⟨setN s.tm j a,s.bx⟩ k)(h:∀B,(getT s.tm j).den B=a.den B:=by intro B;rfl):bE P Q F k8 (.at c s k):=aLG j a h hk
theorem aMH {c:Code}(h:Ok P (Exit.noGoto Q) F (.code c) s []):bE P Q F k8 (.at (.code (.scope c)) s []):=fun B w H=>wp_scope_straight (h B w H)
theorem aJ {tt:TypeId->Option TI}{fs:FuncId->Bool}(E:Env P Q tt fs):Env P (Exit.noGoto Q) tt fs:=⟨E.tt,E.mix,fun c a t w h=>E.pan c a t w h,E.fs⟩
theorem mU {tt:TypeId->Option TI}{fs:FuncId->Bool}{fn:Func}{Rp:Ending->World->Prop}(E:Env P (bodyPost P fn Rp) tt fs)(hF:Frm F k8){e:Ex}{r:List AV}(h:∀B w,F w (mkB B 0 s.bx)->Rp (.returned ((resV r).den B)) w)(he:e = .ret\/e = .n:=by first|exact .inl rfl|exact .inr rfl)(hr:resL tt s fn.results.toList=some r:=by cbv):bE P (Exit.noGoto (bodyPost P fn Rp)) F k8 (.fin e s):=fun B w H=>by
 have q:=aHY E.tt hF he hr h B w H;rcases he with rfl|rfl
 ·exact q
 ·exact q
theorem fV {w:World}{b o d:Nat}{cs sub:List Value}(h:w.rangeAt b o cs)(hs:(cs.drop d).take sub.length=sub):w.rangeAt b (o+d) sub:=fun j v hv=>by
 rw[<- hs,List.getElem?_take]at hv;split at hv
 ·rw[List.getElem?_drop]at hv;have:=h (d+j) v hv
  rwa [<- Nat.add_assoc]at this
 ·cases hv
theorem aKS {t e2:TypeId}{N sz2:Nat}{ps:Array (Nat × Operand)}{l:List Oper}{J j:Nat}{m:List Bool}{bx:List (List AV)}{ok:Bool}{st:List Stg}{o:Oper}{ie:TypeInfo}{z:Value}(q:List AV)
  (h:∀(b0 bb:Nat),Ok P Q (Hd b0 (FrD b rb w0 (fun u=>u.rangeAt bb 0 (AV.denL (fun _=>b0) q)/\R u) Z e sz v rs)) (.pl l J m bx ok st) (s.put o.dst (.sl (fun _=>some ⟨bb,0,none⟩) (fun _=>N) (fun _=>N))) k)
  (hie:P.info? e2=some ie) (hz:ie.zero=some z) (hsz:ie.size=sz2) (hu:P.underlying t=some (.slice e2))
  (hj:getN l j=some o:=by rfl) (ho:o.op = .buildSlice t N ps:=by rfl)
  (hf:∀B,Instr.fill (fun i=>some (i*sz2,sz2)) ((Array.range (N*sz2)).map (z.cells[· % z.cells.size]!)) (ps.map fun (i,x)=>(i,(s.act B).eval x)).toList=some (AV.denL B q).toArray:=by intro B;kernel_rfl) (hq:AV.wfL 1 q=true:=by rfl) (hbx:∃c r,s.bx=c::r:=by exact⟨_,_,rfl⟩)
  (hN:Nat.ble (N*sz2) 16777216=true:=by rfl) (hN0:Nat.ble 1 (N*sz2)=true:=by rfl) (hw:wantA l s o=some true:=by rfl) (hJ:J.testBit j=false:=by rfl) :
  bE P Q (FrD b rb w0 R Z e sz v rs) k8 (.at (.pl l J m bx ok (.o j::st)) s k):=fun B w F S ha=>by
 have g1:(l.drop j).take 1 = [o]:=by
  rw[cZ]at hj;obtain⟨hl,he⟩:=List.getElem?_eq_some_iff.1 hj;rw[List.drop_eq_getElem_cons hl,he];rfl
 have hN:=Nat.le_of_ble_eq_true hN;have hN0:=Nat.le_of_ble_eq_true hN0;refine jH ?_;rw[g1];refine wpList_on (want_den hw) (wp_buildSlice t e2 N ps ho (AV.denL B q).toArray ie z hu hie hz (by rw[hsz];omega) (by rw[hsz];omega) (by rw[hsz];exact hf B) ?_);refine wpList_nil (eQ (fun e=>by rw[hJ]at e;cases e) ?_);have hb:Below w.heap.size w (w.alloc (.cells (AV.denL B q).toArray e2)):=(Below.refl _ _).alloc (Nat.le_refl _) _;have hd:AV.denL B q=AV.denL (fun _=>B 0) q:=AV.cU (n:=1) (fun i hi=>by rw[show i=0 by omega]) q hq;have hbn:=Box.new (w:=w) (c:=AV.denL B q) (t:=e2);have F':=F.fG hb (R':=fun u=>u.rangeAt w.heap.size 0 (AV.denL (fun _=>B 0) q)) fun u ku=>by
  rw[<- hd];intro i y hi;rw[Nat.zero_add];exact((hbn.kept ku (by simp)).2 i y hi).1
 have hh:Hd (B 0) (FrD b rb w0 (fun u=>u.rangeAt w.heap.size 0 (AV.denL (fun _=>B 0) q)/\R u) Z e sz v rs) (w.alloc (.cells (AV.denL B q).toArray e2)) (mkB B 0 s.bx):=⟨F',by
  obtain⟨c,r,e⟩:=hbx;rw[e];rfl⟩
 have:=h (B 0) w.heap.size B _ (by cases o.dst<;>exact hh) S (by cases o.dst<;>exact ha);rw[St.bR]at this;exact this
end
end Go.Proofs.Own
namespace Go.Proofs.YtgeihgombjbkbaaGreat
open Go.RowKit Go.Maps Go.Proofs.Own
theorem Bytes.blk {w:World}{v:Value}{l:List Nat}(h:Bytes w v l)(h0:l ≠ []):∃rb,v.ownBlock=some rb/\rb<w.heap.size /\ ∃j x,w.cell? ⟨rb,j,none⟩=some (.int .u8 x):=by
 obtain⟨a,c,e,hc⟩:=h.rd;obtain⟨b,o,rfl,h1⟩:=hc 0 (by rw[aD];exact List.length_pos_iff.2 h0);subst e;exact⟨b,rfl,World.block_lt_of_cell? _ _ h1,_,_,h1⟩
theorem lK {b rb b0:Nat}{w0:World}{R:World->Prop}{e:TypeId}{sz:Nat}{v:Value}{rs:List (List Value)}{Q:Exit->Act->World->Prop}{k8:KB}{s:St}{k:List KF}{c:Cf}{dst:Option Tmp}{t:RS}(m:Nat)(M:Int)(hM:M=(m:Int))(hm:(m:Int)<18446744073709551616)(h:Ok Tryz.prog Q (Hd b0 (FrD b rb w0 R (Rz b rb (nS m t)) e sz v rs)) c (s.put dst (.i .u64 (.x fun _=>(aF m t.1:Nat)))) k) :
  bE Tryz.prog Q (Hd b0 (FrD b rb w0 R (Rz b rb t) e sz v rs)) k8 (.call 23 [.pa (fun _=>⟨b,0,none⟩),.i .u64 (.l M)] dst c s k):=fun B w F=>by
 subst hM;refine(oO b m t.1 t.2 w F.1.z (by omega) hm).mono ?_;rintro e w' ⟨rfl,h1,h2⟩;rw[Int.toNat_natCast]at *
 exact⟨_,_,rfl,(Hd.frm fd).b,⟨F.1.rd h2 (jY (t:=nS m t) h1),F.2⟩,h⟩
theorem xH {w0 w:World}{R:World->Prop}{L:Bx}(F:Own.Fn (fun _=>False) w0 w L R){v:Value}{l:List Nat}(hB:Bytes w v l){r0:Nat}(hr0:r0<w0.heap.size):∃rb,(l = []\/v.ownBlock=some rb)/\rb<w.heap.size /\ ∀p ∈ L,p.1≠rb:=by
 by_cases h0:l = []
 ·refine⟨r0,.inl h0,Nat.lt_of_lt_of_le hr0 F.bel.size,fun p hp e=>?_⟩;have:=(F.rng p hp).1;omega
 ·obtain⟨rb,h1,h2,j,x,h3⟩:=hB.blk h0;refine⟨rb,.inr h1,h2,fun p hp e=>?_⟩;exact F.n8 p hp j x (e ▸ h3)
theorem gT (B:Nat->Nat)(a:aL)(A:aT):AV.denL B (cN a A)=cJ a A:=rfl
def actsR:Nat->RS->List aL × RS
 | 0,t=>([],t)
 | n+1,t=>if t.2=true then ([],t) else ((lC t).1::(actsR n (lC t).2).1,(actsR n (lC t).2).2)
theorem xS (n:Nat){t:RS}(h:t.2=true):actsR n t=([],t):=by
 cases n with
 | zero=>rfl
 | succ n=>rw[actsR,if_pos h]
structure AI (n:Nat)(t0:RS) where
 j:Nat
 a:Option Addr
 c:Nat
 L:List (aL × aT)
 t:RS
 x:Nat->Value
 hj:j<=n
 hL:L.length=j
 inv:(L.map (·.1)++(actsR (n-j) t).1,(actsR (n-j) t).2)=actsR n t0
def AI.zero (n:Nat)(t0:RS)(x:Nat->Value):AI n t0:=⟨0,none,0,[],t0,x,Nat.zero_le _,rfl,rfl⟩
def AI.next {n:Nat}{t0:RS}(i:AI n t0)(h:i.j<n)(hb:i.t.2=false)(a1:aL)(t1:RS)(har:(a1,t1)=lC i.t)(A:aT)(a:Option Addr)(c:Nat)(x:Nat->Value):AI n t0:=⟨i.j+1,a,c,i.L ++ [(a1,A)],t1,x,h,by rw[List.length_append,i.hL];rfl,by
 have:=i.inv;rw[show n-i.j=(n-(i.j+1))+1 by omega,actsR,if_neg (by rw[hb];decide),<- har]at this;rw[<- this];simp⟩
def AIF (b rb:Nat)(w:World)(e:TypeId){n:Nat}{t0:RS}(i:AI n t0)(v:World)(L:Bx):Prop:=FrD b rb w (fun u=>(∀p ∈ i.L,bO u p.1 p.2)/\True) (Rz b rb i.t) e 19 (.slice i.a i.j i.c) (i.L.map fun p=>cJ p.1 p.2) v L
theorem AIF.zero {b rb:Nat}{w v:World}{e:TypeId}{n:Nat}{t0:RS}{L:Bx}(F:FrD b rb w (fun _=>True) (Rz b rb t0) e 19 (.slice none 0 0) [] v L)(x:Nat->Value):AIF b rb w e (AI.zero n t0 x) v L:=F.imp fun _ _=>⟨fun _ hp=>absurd hp List.not_mem_nil,trivial⟩
theorem AIF.next {b rb:Nat}{w v:World}{e:TypeId}{n:Nat}{t0:RS}{L:Bx}{i:AI n t0}{a1:aL}{t1:RS}{A:aT}{a:Option Addr}{c:Nat}(h:i.j<n)(hb:i.t.2=false)(har:(a1,t1)=lC i.t)
  (F:FrD b rb w (fun u=>bO u a1 A/\(∀p ∈ i.L,bO u p.1 p.2)/\True) (Rz b rb t1) e 19 (.slice a (i.j+1) c) ((i.L.map fun p=>cJ p.1 p.2) ++ [AV.denL (fun _=>0) (cN a1 A)]) v L) (x:Nat->Value):AIF b rb w e (i.next h hb a1 t1 har A a c x) v L:=by
 unfold AIF AI.next;simp only[List.map_append,List.map_cons,List.map_nil];rw[gT]at F;exact F.imp fun u h=>⟨fun p hp=>by
  rcases List.mem_append.1 hp with hp|hp
  ·exact h.2.1 p hp
  ·obtain rfl:=List.mem_singleton.1 hp;exact h.1,trivial⟩
theorem AI.last {n:Nat}{t0:RS}(i:AI n t0)(h:i.j=n\/i.t.2=true):i.L.map (·.1)=(actsR n t0).1/\i.t=(actsR n t0).2:=by
 have:=i.inv;rcases h with h|h
 ·rw[h,Nat.sub_self,actsR,List.append_nil]at this;rw[<- this];exact⟨rfl,rfl⟩
 ·rw[xS _ h,List.append_nil]at this;rw[<- this];exact⟨rfl,rfl⟩
def cf1 (t:RS):RS:=nS 7 t
def cf2 (t:RS):RS:=nS 7 (cf1 t)
def cf3 (t:RS):RS:=nS 64 (cf2 t)
def cf4 (t:RS):RS:=nS 64 (cf3 t)
def cf5 (t:RS):RS:=nS 48 (cf4 t)
def cf6 (t:RS):RS:=nS 1048576 (cf5 t)
def cf7 (t:RS):RS:=nS 200 (cf6 t)
def cf8 (t:RS):RS:=iS (cf7 t)
def cf9 (t:RS):List aL × RS:=actsR (aF 4096 (cf8 t).1) (nS 4096 (cf8 t))
def iP (t:RS):bU × RS:=(⟨⟨(aF 7 t.1:Nat),(aF 7 (cf1 t).1:Nat),(aF 64 (cf2 t).1:Nat),(aF 64 (cf3 t).1:Nat),(aF 48 (cf4 t).1:Nat),(aF 1048576 (cf5 t).1:Nat)⟩,(cf9 t).1,(aF 200 (cf6 t).1:Nat),iY (cf7 t).1⟩,(cf9 t).2)
def zJ:bU:=⟨⟨0,0,0,0,0,0⟩,[],0,0⟩
def uV (l:List Nat):bU × Bool:=if lR (iP (l,false)).2.1 (iP (l,false)).2.2=0/\eZ (iP (l,false)).1=true then ((iP (l,false)).1,true) else (zJ,false)
instance (l:List Nat):Decidable (gJ l):=inferInstanceAs (Decidable (_/\_))
def wL (f:List Nat):bU × Bool:=if gJ f/\f.getD 1 0=6 then uV (gH f) else (zJ,false)
theorem nM {l:List Nat}{r:bU × RS}(h:iP (l,false)=r)(hb:¬(lR r.2.1 r.2.2=0/\eZ r.1=true)):uV l=(zJ,false):=by subst h;rw[uV,if_neg hb]
theorem xK {l:List Nat}{r:bU × RS}(h:iP (l,false)=r)(hb:lR r.2.1 r.2.2=0/\eZ r.1=true):uV l=(r.1,true):=by subst h;rw[uV,if_pos hb]
def nQ (res:Bool->Value)(f:List Nat)(w:World):Ending->World->Prop:=fun e w'=>∃L a n c,e = .returned (.tuple #[.agg (gR (wL f).1 a n c).toArray,res (wL f).2])/\aN w' (wL f).1 L a n c/\Below w.heap.size w w'
theorem aN.zero (w:World):aN w zJ [] none 0 0:=⟨aW.nil w,rfl⟩
theorem nQ.bad {res:Bool->Value}{f:List Nat}{w w':World}(h:wL f=(zJ,false))(hb:Below w.heap.size w w'):nQ res f w (.returned (.tuple #[.agg (gR zJ none 0 0).toArray,res false])) w':=by
 unfold nQ;rw[h];exact⟨[],none,0,0,rfl,aN.zero w',hb⟩
theorem aAi:cM Tryz.prog 26 76 19 216:=by
 obtain⟨i0,hi,hz0,hz1,hz2⟩:=info_parts (show (Tryz.prog.info? 76).map (fun i=>(i.zero,i.size,i.bytes))=some (some (.agg (AV.denL (fun _=>0) aMg).toArray),19,216) by kernel_rfl);exact⟨Tryz.underlying26,⟨i0,_,hi,hz0,hz1,hz2,rfl⟩,by decide,by decide⟩
theorem yZ:cM Tryz.prog 33 86 19 216:=by
 obtain⟨i0,hi,hz0,hz1,hz2⟩:=info_parts (show (Tryz.prog.info? 86).map (fun i=>(i.zero,i.size,i.bytes))=some (some (.agg (AV.denL (fun _=>0) aMg).toArray),19,216) by kernel_rfl);exact⟨Tryz.underlying33,⟨i0,_,hi,hz0,hz1,hz2,rfl⟩,by decide,by decide⟩
end Go.Proofs.YtgeihgombjbkbaaGreat
namespace Go.Proofs.YtgeihgombjbkbaaGreat
open Go.RowKit Go.Maps Go.Proofs.Own
def cL (z:Int):List Nat:=if z<0 then (128+(bL (-1-z).toNat).length)::bL (-1-z).toNat else aC z.toNat
def prW (s:aO):List Nat:=aC s.f.toNat++aC s.t.toNat
def bG (l:List aO):List Nat:=l.flatMap prW
def dL (l:List aO):List Nat:=aC l.length++bG l
def jN (k:fC):List Nat:=cL k.o++(dL k.w++dL k.c)
def iW (k:fS):List Nat:=aC k.c.toNat++(dL k.l++(aC k.r.toNat++aC k.b.toNat))
def tJ (c:cI):List Nat:=if c.k=2 then jN c.cal else if c.k=3 then iW c.tm else if c.k=4 then aC c.ct.toNat else if c.k=9 then cL c.at' else []
def gZ (c:cI):List Nat:=aC c.k.toNat++(aC c.cl.toNat++(aC c.rq.toNat++((if idB c.k=true then aC c.id.toNat else [])++tJ c)))
def cG (c:cI):List Nat:=if c=fY then [] else gZ c
def gW (a:aL):List Nat:=aC a.k.toNat++(aC a.who.toNat++(aC a.to.toNat++(cL a.n++(aC a.id.toNat++((aC (cG a.com).length++cG a.com)++dL a.ts)))))
def bM (l:List aL):List Nat:=l.flatMap gW
def aJm (c:pF)(r:Int):List Nat:=aC c.s.toNat++(aC c.m.toNat++(aC c.el.toNat++(aC c.bt.toNat++(aC c.ev.toNat++(aC c.rm.toNat++aC r.toNat)))))
def fA (s:bU):List Nat:=aJm s.cfg s.rounds++(cL s.by'++(aC s.acts.length++bM s.acts))

theorem nJ {c:cI}(h:bY c=true):1<=c.k/\c.k<=12:=by
 unfold bY cW at h;simp only[Bool.and_eq_true,decide_eq_true_eq]at h;exact h.1
theorem vU {k:Int}(h1:1<=k)(h2:k<=12):idB k=true ↔ k≠1/\k≠9:=by
 unfold idB cW;simp only[Bool.and_eq_true,decide_eq_true_eq,Bool.not_eq_true',beq_eq_false_iff_ne];omega
end Go.Proofs.YtgeihgombjbkbaaGreat
namespace Go.Proofs.YtgeihgombjbkbaaGreat
open Go Go.RowKit Go.Maps Go.Proofs.Own

theorem eA.kept {w w':World}{a:Nat}{v:Value}{l:List Nat}{S:Nat->Prop}(h:eA w a v l)(hk:Kept w w' S)(h1:¬S a)(h2:∀k,v.ownBlock=some k -> ¬S k):eA w' a v l :=
 ⟨hk.cell h.c h1,h.own.kept hk h2,by rw[hk.frozen (a:=⟨a,0,none⟩) h.lt h1];exact h.fr⟩
structure FrW (b:Nat)(w0:World)(v0:Value)(R:World->Prop)(v:Value)(l:List Nat)(w:World)(L:Bx):Prop where
 box:∀(i:Nat) p,L[i]? = some p->Box w p
 inj:∀(i j:Nat) p q,L[i]? = some p->L[j]? = some q->p.1=q.1->i=j
 rng:∀k,k ∈ L.map (·.1)->w0.heap.size<=k/\k≠b/\v.ownBlock≠some k
 wr:eA w b v l
 gr:fP w0 w b v0 v
 s1:Sf (fun k=>k=b\/v.ownBlock=some k\/k ∈ L.map (·.1)) w R
section
variable {b:Nat} {w0 w w':World} {v0 v v':Value} {R R':World->Prop} {l l':List Nat} {L:Bx}
theorem FrW.start {w:World}(h:eA w b v l)(hR:∀u,Kept w u (fun k=>k=b\/v.ownBlock=some k)->R u):FrW b w v R v l w [] :=
 ⟨nofun,nofun,nofun,h,fP.refl _ _ _,fun u ku=>hR u (ku.mono fun _ _ hk=>hk.elim .inl fun h=>h.elim .inr nofun)⟩
theorem FrW.now (F:FrW b w0 v0 R v l w L):R w:=F.s1.now
theorem FrW.mem (F:FrW b w0 v0 R v l w L){k:Nat}(hk:k ∈ L.map (·.1)):k<w.heap.size:=by
 obtain⟨p,hp,rfl⟩:=List.mem_map.1 hk;obtain⟨i,hi⟩:=List.getElem?_of_mem hp;exact(F.box i p hi).lt
theorem FrW.imp (F:FrW b w0 v0 R v l w L)(h:∀u,R u->R' u):FrW b w0 v0 R' v l w L:=⟨F.box,F.inj,F.rng,F.wr,F.gr,F.s1.imp h⟩
theorem FrW.put (F:FrW b w0 v0 R v l w L)(hw:eA w' b v' l')(hg:fP w w' b v v'):FrW b w0 v0 R v' l' w' L:=by
 refine⟨fun i p hp=>(F.box i p hp).kept hg.kept ?_,F.inj,fun k hk=>⟨(F.rng k hk).1,(F.rng k hk).2.1,fun h=>?_⟩,hw,F.gr.trans hg,fun u ku=>F.s1 u (hg.kept.andThen ku fun k hl h=>?_)⟩
 ·have:=F.rng p.1 (List.mem_map.2 ⟨p,List.mem_of_getElem? hp,rfl⟩);exact fun h=>h.elim this.2.1 this.2.2
 ·rcases hg.at' k h with h|h
  ·exact(F.rng k hk).2.2 h
  ·have:=F.mem hk;omega
 ·rcases h with (h|h)|(h|h|h)
  ·exact .inl h
  ·exact .inr (.inl h)
  ·exact .inl h
  ·rcases hg.at' k h with h|h
   ·exact .inr (.inl h)
   ·omega
  ·exact .inr (.inr h)
theorem FrW.call (F:FrW b w0 v0 R v l w L)(hb:Below w.heap.size w w'):FrW b w0 v0 R v l w' L :=
 F.put (F.wr.below hb) ⟨Kept.aQ hb fun _ h1 h2=>by omega,fun _ h=>.inl h⟩
theorem FrW.fG (F:FrW b w0 v0 R v l w L)(hb:Below w.heap.size w w')(hR:Sf (fun k=>k<w.heap.size) w' R'):FrW b w0 v0 (fun u=>R' u/\R u) v l w' L:=by
 have G:=F.call hb;refine⟨G.box,G.inj,G.rng,G.wr,G.gr,Sf.and (hR.sub fun k _ h=>?_) G.s1⟩;rcases h with rfl|h|h
 ·exact F.wr.lt
 ·exact(F.wr.own.lt k h).2
 ·exact F.mem h
theorem FrW.frm (b:Nat)(w0:World)(v0:Value)(R:World->Prop)(v:Value)(l:List Nat):Frm (FrW b w0 v0 R v l) ⟨false,0⟩:=by
 refine⟨fun F i p h=>F.box i p h,fun {w L} F {i bb o c vs} hi hl _ _=>?_,fun {w L} F {c t} _=>?_,fun {w L} F=>F.call ((Below.refl _ _).drew)⟩
 ·have hfst:(L.set i (bb,putN c o vs)).map (·.1)=L.map (·.1):=by
   rw[List.map_set];refine List.ext_getElem? fun k=>?_;rw[List.getElem?_set];split
   ·rename_i hk;subst hk;rw[List.getElem?_map,hi];split
    ·rfl
    ·rename_i hlt;exact absurd (by simpa using (List.getElem?_eq_some_iff.1 hi).1) hlt
   ·rfl
  have hm:bb ∈ L.map (·.1):=List.mem_map.2 ⟨_,List.mem_of_getElem? hi,rfl⟩
  have hkk:Kept w (w.setCells bb o vs) (fun k=>k=bb):=Kept.setCells bb vs o w;have key:∀(k:Nat) p,(L.set i (bb,putN c o vs))[k]? = some p->(k=i/\p=(bb,putN c o vs))\/(k≠i/\L[k]? = some p):=by
   intro k p hp;rw[List.getElem?_set]at hp;split at hp
   ·rename_i hk;split at hp
    ·exact .inl ⟨hk.symm,(Option.some.inj hp).symm⟩
    ·cases hp
   ·rename_i hk;exact .inr ⟨fun h=>hk h.symm,hp⟩
  refine⟨fun k p hp=>?_,fun k j p q hp hq e=>?_,by rw[hfst];exact F.rng,F.wr.kept hkk (fun h=>(F.rng bb hm).2.1 h.symm) (fun k hk h=>(F.rng bb hm).2.2 (h ▸ hk)),⟨F.gr.kept.xM hkk (F.rng bb hm).1,F.gr.at'⟩,by rw[hfst];exact F.s1.to (hkk.mono fun k _ h=>.inr (.inr (h ▸ hm)))⟩
  ·rcases key k p hp with ⟨rfl,rfl⟩|⟨hne,hp⟩
   ·have q:=Box.setL vs c o w (F.box _ _ hi)
    rwa [jZ vs c o hl]at q
   ·exact(F.box k p hp).kept hkk fun e=>hne (F.inj k i p _ hp hi e)
  ·rcases key k p hp with ⟨rfl,rfl⟩|⟨_,hp'⟩<;>rcases key j q hq with ⟨rfl,rfl⟩|⟨_,hq'⟩
   ·rfl
   ·exact F.inj _ j _ q hi hq' e
   ·exact F.inj k _ p _ hp' hi e
   ·exact F.inj k j p q hp' hq' e
 ·have hal:Below w.heap.size w (w.alloc (.cells c.toArray t)):=(Below.refl _ _).alloc (Nat.le_refl _) _;have F2:=F.call hal;have key:∀(i:Nat) p,(L ++ [(w.heap.size,c)])[i]? = some p->(L[i]? = some p/\p.1<w.heap.size)\/(i=L.length/\p=(w.heap.size,c)):=by
   intro i p hp;rw[List.getElem?_append]at hp;split at hp
   ·exact .inl ⟨hp,(F.box i p hp).lt⟩
   ·rename_i hi;rw[List.getElem?_singleton]at hp;split at hp
    ·exact .inr ⟨by omega,(Option.some.inj hp).symm⟩
    ·cases hp
  have hma:∀k,k ∈ (L ++ [(w.heap.size,c)]).map (·.1)->k ∈ L.map (·.1)\/k=w.heap.size:=fun k hk=>by
   rw[List.map_append]at hk;exact(List.mem_append.1 hk).imp id fun h=>by simpa using h
  refine⟨fun i p hp=>?_,fun i j p q hp hq e=>?_,fun k hk=>?_,F2.wr,F2.gr,fun u ku=>F.s1 u ?_⟩
  ·rcases key i p hp with ⟨hp,_⟩|⟨_,rfl⟩
   ·exact F2.box i p hp
   ·exact Box.new
  ·rcases key i p hp with ⟨hp,lp⟩|⟨rfl,rfl⟩<;>rcases key j q hq with ⟨hq,lq⟩|⟨rfl,rfl⟩
   ·exact F.inj i j p q hp hq e
   ·simp only at e;omega
   ·simp only at e;omega
   ·rfl
  ·rcases hma k hk with hk|rfl
   ·exact F.rng k hk
   ·exact⟨F.gr.kept.size,Nat.ne_of_gt F.wr.lt,fun h=>Nat.lt_irrefl _ (F.wr.own.lt _ h).2⟩
  ·refine(Kept.aQ hal (S:=fun _=>False) fun k h1 h2=>by omega).andThen ku fun k hl h=>?_;rcases h with h|h|h|h
   ·exact h.elim
   ·exact .inl h
   ·exact .inr (.inl h)
   ·exact .inr (.inr ((hma k h).resolve_right (by omega)))
theorem fw:Frm (FrW b w0 v0 R v l) ⟨false,0⟩:=FrW.frm _ _ _ _ _ _
theorem FrW.less {M:Bx}(F:FrW b w0 v0 R v l w (L++M)):FrW b w0 v0 R v l w L :=
 ⟨fun i p hp=>F.box i p (by rw[List.getElem?_append_left (List.getElem?_eq_some_iff.1 hp).1];exact hp),fun i j p q hp hq=>F.inj i j p q (by rw[List.getElem?_append_left (List.getElem?_eq_some_iff.1 hp).1];exact hp) (by rw[List.getElem?_append_left (List.getElem?_eq_some_iff.1 hq).1];exact hq),
  fun k hk=>F.rng k (by rw[List.map_append];exact List.mem_append_left _ hk),F.wr,F.gr,F.s1.sub fun k _ h=>h.elim .inl fun h=>h.elim (fun h=>.inr (.inl h)) fun h=>.inr (.inr (by rw[List.map_append];exact List.mem_append_left _ h))⟩
end
def Wn (b:Nat)(v:Value)(kk:IntKind)(zs:List Int)(g:Nat)(u:World):Prop:=Reads u kk (.slice (some ⟨g,0,none⟩) zs.length zs.length) zs/\g≠b/\v.ownBlock≠some g
theorem qK {w:World}{kk:IntKind}{zs:List Int}{t:TypeId}:Reads (w.alloc (.cells (zs.map (.int kk)).toArray t)) kk (.slice (some ⟨w.heap.size,0,none⟩) zs.length zs.length) zs:=by
 have hb:=Box.new (w:=w) (c:=zs.map (.int kk)) (t:=t);refine⟨_,_,rfl,fun j hj=>⟨w.heap.size,0,rfl,?_⟩⟩;have:=(hb.2 j (.int kk zs[j]) (by rw[List.getElem?_map,List.getElem?_eq_getElem hj];rfl)).1;rw[Nat.zero_add];exact this
section
variable {b:Nat} {w0:World} {v0 v:Value} {R:World->Prop} {lb:List Nat} {Q:Exit->Act->World->Prop} {k8:KB} {s:St} {k:List KF} {c:Cf} {dst:Option Tmp}
theorem cY {t e2:TypeId}{kk:IntKind}{by' N:Nat}{ps:Array (Nat × Operand)}{l r:List Oper}{o:Oper}(I:eE Tryz.prog t e2 kk by')(zs:List Int)
  (h:∀g,Ok Tryz.prog Q (FrW b w0 v0 (fun u=>Wn b v kk zs g u/\R u) v lb) (.ops l r) (s.put o.dst (.sl (fun _=>some ⟨g,0,none⟩) (fun _=>N) (fun _=>N))) k)
  (ho:o.op = .buildSlice t N ps:=by rfl)
  (hf:∀B,Instr.fill (fun i=>some (i*1,1)) ((Array.range (N*1)).map ((Value.int kk 0).cells[· % (Value.int kk 0).cells.size]!)) (ps.map fun (i,x)=>(i,(s.act B).eval x)).toList=some (zs.map (.int kk)).toArray:=by intro B;kernel_rfl)
  (hN:zs.length=N:=by rfl) (hN1:Nat.ble N 1000=true:=by rfl) (hN0:Nat.ble 1 N=true:=by rfl) (hw:wantA l s o=some true:=by rfl) :
  bE Tryz.prog Q (FrW b w0 v0 R v lb) k8 (.at (.ops l (o::r)) s k):=fun B w F=>by
 have hN1:=Nat.le_of_ble_eq_true hN1;have hN0:=Nat.le_of_ble_eq_true hN0;obtain⟨ie,hie,hz,hz2,_⟩:=gA I.info;refine wpList_on (want_den hw) (wp_buildSlice t e2 N ps ho (zs.map (.int kk)).toArray ie (.int kk 0) I.under hie hz (by rw[hz2];omega) (by rw[hz2];omega) (by rw[hz2];exact hf B) ?_);have hb:Below w.heap.size w (w.alloc (.cells (zs.map (.int kk)).toArray e2)):=(Below.refl _ _).alloc (Nat.le_refl _) _;have F':=F.fG hb (R':=Wn b v kk zs w.heap.size) fun u ku=>⟨qK.kept ku (fun k hk=>by simp only[Value.ownBlock]at hk;obtain rfl:=Option.some.inj hk;exact Nat.lt_irrefl _),Nat.ne_of_gt F.wr.lt,fun h=>Nat.lt_irrefl _ (F.wr.own.lt _ h).2⟩;have:=h w.heap.size B _ (by cases o.dst<;>exact F');rw[St.bR]at this;rw[<- hN]at this ⊢;exact this
theorem dQ (ns:List Nat){zs:List Int}{g N:Nat}(hz:zs=ints ns)(hns:∀n ∈ ns,(n:Int)<18446744073709551616)(hl:lb.length+9*ns.length<=1000000)
  (h:∀v',Ok Tryz.prog Q (FrW b w0 v0 R v' (lb++aE ns)) c (s.put dst (.t [])) k) (hN:zs.length=N:=by rfl) :
  bE Tryz.prog Q (FrW b w0 v0 (fun u=>Wn b v .u64 zs g u/\R u) v lb) k8 (.call 35 [.pa (fun _=>⟨b,0,none⟩),.sl (fun _=>some ⟨g,0,none⟩) (fun _=>N) (fun _=>N)] dst c s k):=fun B w F=>by
 subst hN hz;obtain⟨⟨h1,h2,h3⟩,_⟩:=F.now;refine(vO b v _ lb ns w F.wr h1 hns (fun k hk=>by simp only[Value.ownBlock]at hk;obtain rfl:=Option.some.inj hk;exact⟨h2,h3⟩) hl).mono ?_;rintro e w' ⟨rfl,v',hw,hg⟩;exact⟨.t [],_,rfl,fw.b,(F.put hw hg).imp fun _ h=>h.2,h v'⟩
end
theorem bN:eE Tryz.prog 135 50 .u64 8:=⟨Tryz.underlying135,by kernel_rfl⟩
theorem nL:eE Tryz.prog 166 2 .i64 8:=⟨Tryz.underlying166,by kernel_rfl⟩
section
variable {b:Nat} {w0:World} {v0 v:Value} {R:World->Prop} {lb:List Nat} {Q:Exit->Act->World->Prop} {k8:KB} {s:St} {k:List KF} {c:Cf} {dst:Option Tmp}
theorem vN (n m:Nat){e:IE}(he:e.den=(n:Int)){M:Int}(hM:M=(m:Int))(hn:(n:Int)<18446744073709551616)(hm:m<=128)(hl:lb.length<=1000000)
  (h:∀v',Ok Tryz.prog Q (FrW b w0 v0 R v' (lb++((m+(bL n).length)::bL n))) c (s.put dst (.t [])) k) :
  bE Tryz.prog Q (FrW b w0 v0 R v lb) k8 (.call 83 [.pa (fun _=>⟨b,0,none⟩),.i .u64 e,.i .u8 (.l M)] dst c s k):=fun B w F=>by
 have q:=nD b v lb n m w F.wr hn hm hl;rw[<- he,<- hM]at q;refine q.mono ?_;rintro e w' ⟨rfl,v',hw,hg⟩;exact⟨.t [],_,rfl,fw.b,F.put hw hg,h v'⟩
end
theorem gG {z:Int}(h0:0<=z)(h1:z<18446744073709551616):IntKind.u64.wrap z=(z.toNat:Int):=by
 rw[wrap_u64,Int.toNat_of_nonneg h0];omega
theorem aJb (b:Nat)(v:Value)(l:List Nat)(z:Int)(g:Nat)(w:World)(hw:eA w b v l)(hx:Wn b v .i64 [z] g w)(h0:-9223372036854775808<=z)(h1:z<9223372036854775808)(hl:l.length+9<=1000000) :
  Calls Tryz.prog 36 #[.pointer (some ⟨b,0,none⟩),.slice (some ⟨g,0,none⟩) 1 1] w fun e w'=>e = .returned (.tuple #[]) /\ ∃v',eA w' b v' (l++cL z)/\fP w w' b v v':=by
 obtain⟨hr,hgb,hgv⟩:=hx;have hc:w.cell? ⟨g,0,none⟩=some (.int .i64 z):=by
  obtain⟨a,c,e,h⟩:=hr;cases e;obtain⟨b',o',e,hh⟩:=h 0 (by simp);cases e;exact hh
 have F0:FrW b w v (fun u=>u.cell? ⟨g,0,none⟩=some (.int .i64 z)) v l w []:=FrW.start hw fun u ku=>ku.cell hc fun h=>h.elim hgb hgv;refine enter (F:=FrW b w v (fun u=>u.cell? ⟨g,0,none⟩=some (.int .i64 z)) v l) (fun _=>0) [.pa (fun _=>⟨b,0,none⟩),.sl (fun _=>some ⟨g,0,none⟩) (fun _=>1) (fun _=>1)] [] Tryz.func36 rfl rfl F0 24 rfl ?_;clear F0 hr hc hgb hgv hw;refine ga env fw aA ?_;refine vK 2 fun J0 hJ0=>?_;refine ga env fw aA ?_;refine⟨fun q=>?_,fun q=>absurd q (by simp[BE.den,cmpB,IE.den])⟩;clear q;refine ga env fw aA ?_;refine aK (.pa fun _=>⟨g,0,none⟩) (fun B u F=>aS (i:=0) (e:=2) (n:=1) rfl Tryz.underlying166 (by kernel_rfl) (by rw[St.aB];rfl) (by rw[St.aB];rfl) (by decide)) ?_;refine ga env fw aA ?_;refine aK (.i .i64 (.x fun _=>z)) (fun B u F=>fB aH (b:=g) (off:=0) rfl (by rw[St.aB];rfl) rfl rfl F.now) ?_;refine ga env fw aA ?_;refine⟨fun q=>?_,fun q=>?_⟩
 ·have hz:z<0:=of_decide_eq_true q;clear q;refine ga env fw aA ?_;refine vN (-1-z).toNat 128 (by simp only[IE.den];rw[show IntKind.i64.wrap (-1-z) = -1-z by rw[IntKind.wrap_i64];omega,gG (by omega) (by omega)]) rfl (by omega) (by decide) (by omega) ?_;intro v';refine ga env fw aA ?_;refine dK hJ0 fun J1 hJ1=>?_;refine ga env fw aA ?_;refine⟨fun q=>absurd q (by simp[BE.den,cmpB,IE.den]),fun q=>?_⟩;refine ga env fw aA ?_;refine fa env fw ?_;intro B u F;rw[cL,if_pos hz];exact⟨rfl,v',F.wr,F.gr⟩
 ·have hz:¬z<0:=of_decide_eq_false q;clear q;refine ga env fw aA ?_;refine vN z.toNat 0 (by simp only[IE.den];rw[gG (by omega) (by omega)]) rfl (by omega) (by decide) (by omega) ?_;intro v';refine ga env fw aA ?_;refine dK hJ0 fun J1 hJ1=>?_;refine ga env fw aA ?_;refine⟨fun q=>absurd q (by simp[BE.den,cmpB,IE.den]),fun q=>?_⟩;refine ga env fw aA ?_;refine fa env fw ?_;intro B u F;rw[cL,if_neg hz,aC];rw[Nat.zero_add]at F;exact⟨rfl,v',F.wr,F.gr⟩
section
variable {b:Nat} {w0:World} {v0 v:Value} {R:World->Prop} {lb:List Nat} {Q:Exit->Act->World->Prop} {k8:KB} {s:St} {k:List KF} {c:Cf} {dst:Option Tmp}
theorem xQ (z:Int){g:Nat}(h0:-9223372036854775808<=z)(h1:z<9223372036854775808)(hl:lb.length+9<=1000000)
  (h:∀v',Ok Tryz.prog Q (FrW b w0 v0 R v' (lb++cL z)) c (s.put dst (.t [])) k) :
  bE Tryz.prog Q (FrW b w0 v0 (fun u=>Wn b v .i64 [z] g u/\R u) v lb) k8 (.call 36 [.pa (fun _=>⟨b,0,none⟩),.sl (fun _=>some ⟨g,0,none⟩) (fun _=>1) (fun _=>1)] dst c s k):=fun B w F=>by
 refine(aJb b v lb z g w F.wr F.now.1 h0 h1 hl).mono ?_;rintro e w' ⟨rfl,v',hw,hg⟩;exact⟨.t [],_,rfl,fw.b,(F.put hw hg).imp fun _ h=>h.2,h v'⟩
theorem aKG (T:List Nat)(hT:∀c ∈ T,c<256)(hl:lb.length+9+T.length<=1000000)
  (h:∀v',Ok Tryz.prog Q (FrW b w0 v0 R v' (lb++(aC T.length++T))) c (s.put dst (.t [])) k) :
  bE Tryz.prog Q (FrW b w0 v0 R v lb) k8 (.call 86 [.pa (fun _=>⟨b,0,none⟩),.st fun _=>eS T] dst c s k):=fun B w F=>by
 refine(zY b v lb (eS T) w F.wr (by rw[iQ];exact hl)).mono ?_;rintro e w' ⟨rfl,v',hw,hg⟩;rw[iQ,gC hT]at hw;exact⟨.t [],_,rfl,fw.b,F.put hw hg,h v'⟩
def sM (b:Nat)(v:Value)(l:List Nat)(w:World):Ending->World->Prop:=fun e w'=>e = .returned (.tuple #[]) /\ ∃v',eA w' b v' l/\fP w w' b v v'
end
theorem gU {l:List aO}{j:Nat}(h:j<l.length):bG (l.take (j+1))=bG (l.take j)++aE [l[j].f.toNat,l[j].t.toNat]:=by
 rw[List.take_succ_eq_append_getElem h];unfold bG;simp only[List.flatMap_append,List.flatMap_cons,List.flatMap_nil,List.append_nil];rw[prW];simp[aE]
theorem dD (l:List aO)(h:∀s ∈ l,0<=s.f/\s.f<9223372036854775808/\0<=s.t/\s.t<9223372036854775808):(bG l).length<=18*l.length:=by
 induction l with
 | nil=>simp[bG]
 | cons s l ih =>
  have h1:=ih fun x hx=>h x (List.mem_cons_of_mem _ hx);have h2:=h s (List.mem_cons_self ..);have e:bG (s::l)=prW s++bG l:=by simp[bG]
  have h3:=bB (n:=s.f.toNat) (by omega);have h4:=bB (n:=s.t.toNat) (by omega);rw[e,prW,List.length_append,List.length_append,List.length_cons];omega
structure WI (n:Nat) where
 j:Nat
 v:Value
 x:Nat->Value
 hj:j<=n
def SpR (l:List aO):Prop:=∀s ∈ l,0<=s.f/\s.f<9223372036854775808/\0<=s.t/\s.t<9223372036854775808
theorem SpR.take {l:List aO}(h:SpR l)(j:Nat):SpR (l.take j):=fun s hs=>h s (List.mem_of_mem_take hs)
theorem wn1 {n:Nat}(h:(n:Int)<18446744073709551616):[IntKind.u64.wrap (n:Int)]=ints [n]:=by rw[wrU h];rfl
theorem wnZ {z:Int}(h0:0<=z):[z]=ints [z.toNat]:=by
 show [z] = [((z.toNat:Nat):Int)];rw[Int.toNat_of_nonneg h0]
theorem aOH {z:Int}(h0:0<=z)(h1:z<18446744073709551616):[IntKind.u64.wrap z]=ints [z.toNat]:=by rw[gG h0 h1];rfl
theorem zW {z y:Int}(h0:0<=z)(h1:z<18446744073709551616)(h2:0<=y)(h3:y<18446744073709551616):[IntKind.u64.wrap z,IntKind.u64.wrap y]=ints [z.toNat,y.toNat]:=by rw[gG h0 h1,gG h2 h3];rfl
theorem fH {z:Int}(h0:-9223372036854775808<=z)(h1:z<9223372036854775808):(cL z).length<=9:=by
 unfold cL;split
 ·have:=eG (n:=(-1-z).toNat) (by omega);rw[List.length_cons];omega
 ·exact bB (by omega)
theorem uB (b:Nat)(v:Value)(l:List Nat)(k:fC)(wa:Option Addr)(wc:Nat)(ca:Option Addr)(cc:Nat)(w:World)(hw:eA w b v l)(hs:∀u,Kept w u (fun j=>j=b\/v.ownBlock=some j)->cE u k wa k.w.length wc ca k.c.length cc)
  (ho:-9223372036854775808<=k.o/\k.o<9223372036854775808) (h1:SpR k.w) (h2:SpR k.c) (hwl:k.w.length<=32) (hcl:k.c.length<=32) (hl:l.length+1300<=1000000) :
  Calls Tryz.prog 128 #[.pointer (some ⟨b,0,none⟩),.agg #[.int .i64 k.o,.slice wa k.w.length wc,.slice ca k.c.length cc]] w (sM b v (l++jN k) w):=by
 have F0:FrW b w v (fun u=>cE u k wa k.w.length wc ca k.c.length cc) v l w []:=FrW.start hw hs;refine enter (F:=FrW b w v (fun u=>cE u k wa k.w.length wc ca k.c.length cc) v l) (fun _=>0) [.pa (fun _=>⟨b,0,none⟩),.g [.i .i64 (.x fun _=>k.o),.sl (fun _=>wa) (fun _=>k.w.length) (fun _=>wc),.sl (fun _=>ca) (fun _=>k.c.length) (fun _=>cc)]] [] Tryz.func128 rfl rfl F0 42 rfl ?_;have hC0:=hs w (Kept.refl _ _);clear F0 hw hs;generalize hPW:l++jN k=PW;obtain⟨o,W,C⟩:=k;simp only at ho h1 h2 hwl hcl hC0 ⊢;refine ga env fw aA ?_;refine cY nL [o] fun g=>?_;refine ga env fw aA ?_;refine xQ o ho.1 ho.2 (by omega) fun v1=>?_;have hi9:(cL o).length<=9:=fH ho.1 ho.2;generalize hX:l++cL o=X;have hXl:X.length<=l.length+9:=by rw[<- hX,List.length_append];omega
 clear hi9;refine ga env fw aA ?_;refine aK (.g [.sl (fun _=>wa) (fun _=>W.length) (fun _=>wc),.sl (fun _=>ca) (fun _=>C.length) (fun _=>cc)]) (fun B v F=>rB aH rfl Tryz.underlying327 rfl rfl rfl) ?_;refine ga env fw aA ?_;refine vK 3 fun J0 hJ0=>?_;refine ga env fw aA ?_;refine aK (.sl (fun _=>wa) (fun _=>W.length) (fun _=>wc)) (fun B v F=>iZ aH (i:=0) rfl Tryz.underlying327 rfl rfl (by rw[St.aB];rfl) (by decide) rfl) ?_;refine ga env fw aA ?_;refine cY bN [IntKind.u64.wrap (W.length:Int)] fun g=>?_;refine ga env fw aA ?_;refine dQ [W.length] (wn1 (by omega)) (by simp;omega) (by simp;omega) fun v2=>?_;have hn9:=aV [W.length] (by simp;omega);generalize hY:X++aE [W.length]=Z0;have hYl:Z0.length<=X.length+9:=by rw[<- hY,List.length_append];simp at hn9;omega
 have hY2:X++dL W=Z0++bG W:=by rw[<- hY,dL];simp[aE]
 clear hY hn9;refine ga env fw aA ?_;refine dI (fun i:WI W.length=>FrW b w v (fun u=>cE u ⟨o,W,C⟩ wa W.length wc ca C.length cc) i.v (Z0++bG (W.take i.j))) WI.x (fun i=>[(0,.pa (fun _=>⟨b,0,none⟩)),(17,.g [.sl (fun _=>wa) (fun _=>W.length) (fun _=>wc),.sl (fun _=>ca) (fun _=>C.length) (fun _=>cc)]),(18,.i .i64 (.l 0)),(27,.sl (fun _=>wa) (fun _=>W.length) (fun _=>wc)),(28,.i .i64 (.x fun _=>(W.length:Int))),(29,.i .i64 (.x fun _=>(i.j:Int)))]) (fun _=>[[.i .i64 (.x fun _=>o),.sl (fun _=>wa) (fun _=>W.length) (fun _=>wc),.sl (fun _=>ca) (fun _=>C.length) (fun _=>cc)]]) (fun i=>W.length-i.j) 44 (fun x=>⟨0,v2,x,Nat.zero_le _⟩) (fun _=>rfl) (fun B x=>⟨rfl,rfl,rfl,rfl,rfl,rfl,trivial⟩) (fun B w1 F x=>by rw[List.take_zero,show bG [] = [] from rfl,List.append_nil];exact FrW.less (L:=[(B 0,_)]) F) ?_;intro i J hJ;refine ga env fw aA ?_;refine⟨fun q=>?_,fun q=>?_⟩
 ·have hlt:i.j<W.length:=by simpa [BE.den,cmpB,IE.den] using q
  clear q;have htk:=gU hlt;have hsp:=h1 _ (List.getElem_mem hlt);have hln:=dD _ (SpR.take h1 i.j);rw[List.length_take,Nat.min_eq_left (Nat.le_of_lt hlt)]at hln;generalize hp:W[i.j]=p at htk hsp;obtain⟨gb,go,rfl,_⟩:=hC0.rw.at (j:=i.j) (by rw[List.length_map];exact hlt);have hrg:∀u,cE u ⟨o,W,C⟩ (some ⟨gb,go,none⟩) W.length wc ca C.length cc->u.rangeAt gb (go+i.j*2) (spV p):=fun u hu=>by
   have:=hu.rw.range (j:=i.j) (by rw[List.length_map];exact hlt);rw[List.getElem_map]at this;exact hp ▸ this
  clear hp;refine ga env fw aA ?_;refine aK (.pa fun _=>⟨gb,go+i.j*2,none⟩) (fun B v F=>aS (e:=324) (n:=2) rfl Tryz.underlying66 (by kernel_rfl) (by rw[St.aB];rfl) (by rw[St.aB];rfl) hlt) ?_;refine ga env fw aA ?_;refine aK (.g [.i .i64 (.x fun _=>p.f),.i .i64 (.x fun _=>p.t)]) (fun B v F=>cC (cs:=spV p) (b:=gb) (off:=go+i.j*2) rfl (by rw[St.aB];rfl) (hrg _ F.now) Tryz.underlying324 rfl (by kernel_rfl)) ?_;refine ga env fw aA ?_;refine cY bN [IntKind.u64.wrap p.f,IntKind.u64.wrap p.t] fun g=>?_;refine ga env fw aA ?_;refine dQ [p.f.toNat,p.t.toNat] (zW hsp.1 (by omega) hsp.2.2.1 (by omega)) (by simp;omega) (by rw[List.length_append];simp;omega) fun v3=>?_;refine ga env fw aA ?_;refine eI hJ (fun x=>⟨i.j+1,v3,x,hlt⟩) (fun _=>rfl) (fun _=>(by omega:W.length-(i.j+1)<W.length-i.j)) (fun B x=>⟨rfl,rfl,rfl,rfl,rfl,?_,trivial⟩) (fun B u F x=>?_)
  ·simp only[AV.den,IE.den,getT];rw[wrI hlt (by omega)]
  ·show FrW b w v _ v3 (Z0++bG (W.take (i.j+1))) u [(B 0,_)];rw[htk,<- List.append_assoc];exact FrW.less (L:=[(B 0,_)]) F
 have hje:i.j=W.length:=by
  have:¬i.j<W.length:=by simpa [BE.den,cmpB,IE.den] using q
  have:=i.hj;omega
 clear q hJ;have hpl:=dD W h1;rw[hje,List.take_length,<- hY2];have hZl:(X++dL W).length<=X.length+9+18*32:=by rw[hY2,List.length_append];omega
 clear hY2 hYl hje hpl;generalize hXY:X++dL W=Y at hZl ⊢;refine ga env fw aA ?_;refine dK hJ0 fun J1 hJ1=>?_;clear hJ0;refine ga env fw aA ?_;refine aK (.sl (fun _=>ca) (fun _=>C.length) (fun _=>cc)) (fun B v F=>iZ aH (i:=1) rfl Tryz.underlying327 rfl rfl (by rw[St.aB];rfl) (by decide) rfl) ?_;refine ga env fw aA ?_;refine cY bN [IntKind.u64.wrap (C.length:Int)] fun g=>?_;refine ga env fw aA ?_;refine dQ [C.length] (wn1 (by omega)) (by simp;omega) (by simp;omega) fun v2=>?_;have hn9:=aV [C.length] (by simp;omega);generalize hY:Y++aE [C.length]=Z1;have hYl:Z1.length<=Y.length+9:=by rw[<- hY,List.length_append];simp at hn9;omega
 have hY2:Y++dL C=Z1++bG C:=by rw[<- hY,dL];simp[aE]
 clear hY hn9;refine ga env fw aA ?_;refine dI (fun i:WI C.length=>FrW b w v (fun u=>cE u ⟨o,W,C⟩ wa W.length wc ca C.length cc) i.v (Z1++bG (C.take i.j))) WI.x (fun i=>[(0,.pa (fun _=>⟨b,0,none⟩)),(17,.g [.sl (fun _=>wa) (fun _=>W.length) (fun _=>wc),.sl (fun _=>ca) (fun _=>C.length) (fun _=>cc)]),(18,.i .i64 (.l 1)),(27,.sl (fun _=>ca) (fun _=>C.length) (fun _=>cc)),(28,.i .i64 (.x fun _=>(C.length:Int))),(29,.i .i64 (.x fun _=>(i.j:Int)))]) (fun _=>[[.i .i64 (.x fun _=>o),.sl (fun _=>wa) (fun _=>W.length) (fun _=>wc),.sl (fun _=>ca) (fun _=>C.length) (fun _=>cc)]]) (fun i=>C.length-i.j) 44 (fun x=>⟨0,v2,x,Nat.zero_le _⟩) (fun _=>rfl) (fun B x=>⟨rfl,rfl,rfl,rfl,rfl,rfl,trivial⟩) (fun B w1 F x=>by rw[List.take_zero,show bG [] = [] from rfl,List.append_nil];exact FrW.less (L:=[(B 0,_)]) F) ?_;intro i J hJ;refine ga env fw aA ?_;refine⟨fun q=>?_,fun q=>?_⟩
 ·have hlt:i.j<C.length:=by simpa [BE.den,cmpB,IE.den] using q
  clear q;have htk:=gU hlt;have hsp:=h2 _ (List.getElem_mem hlt);have hln:=dD _ (SpR.take h2 i.j);rw[List.length_take,Nat.min_eq_left (Nat.le_of_lt hlt)]at hln;generalize hp:C[i.j]=p at htk hsp;obtain⟨gb,go,rfl,_⟩:=hC0.rc.at (j:=i.j) (by rw[List.length_map];exact hlt);have hrg:∀u,cE u ⟨o,W,C⟩ wa W.length wc (some ⟨gb,go,none⟩) C.length cc->u.rangeAt gb (go+i.j*2) (spV p):=fun u hu=>by
   have:=hu.rc.range (j:=i.j) (by rw[List.length_map];exact hlt);rw[List.getElem_map]at this;exact hp ▸ this
  clear hp;refine ga env fw aA ?_;refine aK (.pa fun _=>⟨gb,go+i.j*2,none⟩) (fun B v F=>aS (e:=324) (n:=2) rfl Tryz.underlying66 (by kernel_rfl) (by rw[St.aB];rfl) (by rw[St.aB];rfl) hlt) ?_;refine ga env fw aA ?_;refine aK (.g [.i .i64 (.x fun _=>p.f),.i .i64 (.x fun _=>p.t)]) (fun B v F=>cC (cs:=spV p) (b:=gb) (off:=go+i.j*2) rfl (by rw[St.aB];rfl) (hrg _ F.now) Tryz.underlying324 rfl (by kernel_rfl)) ?_;refine ga env fw aA ?_;refine cY bN [IntKind.u64.wrap p.f,IntKind.u64.wrap p.t] fun g=>?_;refine ga env fw aA ?_;refine dQ [p.f.toNat,p.t.toNat] (zW hsp.1 (by omega) hsp.2.2.1 (by omega)) (by simp;omega) (by rw[List.length_append];simp;omega) fun v3=>?_;refine ga env fw aA ?_;refine eI hJ (fun x=>⟨i.j+1,v3,x,hlt⟩) (fun _=>rfl) (fun _=>(by omega:C.length-(i.j+1)<C.length-i.j)) (fun B x=>⟨rfl,rfl,rfl,rfl,rfl,?_,trivial⟩) (fun B u F x=>?_)
  ·simp only[AV.den,IE.den,getT];rw[wrI hlt (by omega)]
  ·show FrW b w v _ v3 (Z1++bG (C.take (i.j+1))) u [(B 0,_)];rw[htk,<- List.append_assoc];exact FrW.less (L:=[(B 0,_)]) F
 have hje:i.j=C.length:=by
  have:¬i.j<C.length:=by simpa [BE.den,cmpB,IE.den] using q
  have:=i.hj;omega
 clear q hJ;have hpl:=dD C h2;rw[hje,List.take_length,<- hY2];have hZl:(Y++dL C).length<=Y.length+9+18*32:=by rw[hY2,List.length_append];omega
 clear hY2 hYl hje hpl;refine ga env fw aA ?_;refine dK hJ1 fun J2 hJ2=>?_;refine ga env fw aA ?_;refine fa env fw ?_;intro B u F;exact⟨rfl,_,by rw[<- hPW,jN,<- List.append_assoc,hX,<- List.append_assoc,hXY];exact F.wr,F.gr⟩
theorem uC (b:Nat)(v:Value)(l:List Nat)(k:fS)(la:Option Addr)(lc:Nat)(w:World)(hw:eA w b v l)(hs:∀u,Kept w u (fun j=>j=b\/v.ownBlock=some j)->cF u k la k.l.length lc)
  (h0:0<=k.c/\k.c<9223372036854775808) (h1:0<=k.r/\k.r<9223372036854775808) (h2:0<=k.b/\k.b<9223372036854775808) (h3:SpR k.l) (hll:k.l.length<=32) (hl:l.length+1300<=1000000) :
  Calls Tryz.prog 129 #[.pointer (some ⟨b,0,none⟩),.agg #[.int .i64 k.c,.slice la k.l.length lc,.int .i64 k.r,.int .i64 k.b]] w (sM b v (l++iW k) w):=by
 have F0:FrW b w v (fun u=>cF u k la k.l.length lc) v l w []:=FrW.start hw hs;refine enter (F:=FrW b w v (fun u=>cF u k la k.l.length lc) v l) (fun _=>0) [.pa (fun _=>⟨b,0,none⟩),.g [.i .i64 (.x fun _=>k.c),.sl (fun _=>la) (fun _=>k.l.length) (fun _=>lc),.i .i64 (.x fun _=>k.r),.i .i64 (.x fun _=>k.b)]] [] Tryz.func129 rfl rfl F0 40 rfl ?_;have hC0:=hs w (Kept.refl _ _);clear F0 hw hs;generalize hPW:l++iW k=PW;obtain⟨kc,W,kr,kb⟩:=k;simp only at h0 h1 h2 h3 hll hC0 ⊢;refine ga env fw aA ?_;refine cY bN [IntKind.u64.wrap kc,IntKind.u64.wrap (W.length:Int)] fun g=>?_;refine ga env fw aA ?_;refine dQ [kc.toNat,W.length] (by rw[gG h0.1 (by omega),wrU (by omega)];rfl) (by simp;omega) (by simp;omega) fun v2=>?_;have hn9:=aV [kc.toNat,W.length] (by simp;omega);generalize hY:l++aE [kc.toNat,W.length]=Z;have hYl:Z.length<=l.length+18:=by rw[<- hY,List.length_append];simp at hn9;omega
 have hY2:l++(aC kc.toNat++dL W)=Z++bG W:=by rw[<- hY,dL];simp[aE]
 clear hY hn9;refine ga env fw aA ?_;refine dI (fun i:WI W.length=>FrW b w v (fun u=>cF u ⟨kc,W,kr,kb⟩ la W.length lc) i.v (Z++bG (W.take i.j))) WI.x (fun i=>[(0,.pa (fun _=>⟨b,0,none⟩)),(3,.p 0 0),(17,.sl (fun _=>la) (fun _=>W.length) (fun _=>lc)),(18,.i .i64 (.x fun _=>(W.length:Int))),(19,.i .i64 (.x fun _=>(i.j:Int)))]) (fun _=>[[.i .i64 (.x fun _=>kc),.sl (fun _=>la) (fun _=>W.length) (fun _=>lc),.i .i64 (.x fun _=>kr),.i .i64 (.x fun _=>kb)]]) (fun i=>W.length-i.j) 42 (fun x=>⟨0,v2,x,Nat.zero_le _⟩) (fun _=>rfl) (fun B x=>⟨rfl,rfl,rfl,rfl,rfl,trivial⟩) (fun B w1 F x=>by rw[List.take_zero,show bG [] = [] from rfl,List.append_nil];exact FrW.less (L:=[(B 0,_)]) F) ?_;intro i J hJ;refine ga env fw aA ?_;refine⟨fun q=>?_,fun q=>?_⟩
 ·have hlt:i.j<W.length:=by simpa [BE.den,cmpB,IE.den] using q
  clear q;have htk:=gU hlt;have hsp:=h3 _ (List.getElem_mem hlt);have hln:=dD _ (SpR.take h3 i.j);rw[List.length_take,Nat.min_eq_left (Nat.le_of_lt hlt)]at hln;generalize hp:W[i.j]=p at htk hsp;obtain⟨gb,go,rfl,_⟩:=hC0.rl.at (j:=i.j) (by rw[List.length_map];exact hlt);have hrg:∀u,cF u ⟨kc,W,kr,kb⟩ (some ⟨gb,go,none⟩) W.length lc->u.rangeAt gb (go+i.j*2) (spV p):=fun u hu=>by
   have:=hu.rl.range (j:=i.j) (by rw[List.length_map];exact hlt);rw[List.getElem_map]at this;exact hp ▸ this
  clear hp;refine ga env fw aA ?_;refine aK (.pa fun _=>⟨gb,go+i.j*2,none⟩) (fun B v F=>aS (e:=275) (n:=2) rfl Tryz.underlying69 (by kernel_rfl) (by rw[St.aB];rfl) (by rw[St.aB];rfl) hlt) ?_;refine ga env fw aA ?_;refine aK (.g [.i .i64 (.x fun _=>p.f),.i .i64 (.x fun _=>p.t)]) (fun B v F=>cC (cs:=spV p) (b:=gb) (off:=go+i.j*2) rfl (by rw[St.aB];rfl) (hrg _ F.now) Tryz.underlying275 rfl (by kernel_rfl)) ?_;refine ga env fw aA ?_;refine cY bN [IntKind.u64.wrap p.f,IntKind.u64.wrap p.t] fun g=>?_;refine ga env fw aA ?_;refine dQ [p.f.toNat,p.t.toNat] (zW hsp.1 (by omega) hsp.2.2.1 (by omega)) (by simp;omega) (by rw[List.length_append];simp;omega) fun v3=>?_;refine ga env fw aA ?_;refine eI hJ (fun x=>⟨i.j+1,v3,x,hlt⟩) (fun _=>rfl) (fun _=>(by omega:W.length-(i.j+1)<W.length-i.j)) (fun B x=>⟨rfl,rfl,rfl,rfl,?_,trivial⟩) (fun B u F x=>?_)
  ·simp only[AV.den,IE.den,getT];rw[wrI hlt (by omega)]
  ·show FrW b w v _ v3 (Z++bG (W.take (i.j+1))) u [(B 0,_)];rw[htk,<- List.append_assoc];exact FrW.less (L:=[(B 0,_)]) F
 have hje:i.j=W.length:=by
  have:¬i.j<W.length:=by simpa [BE.den,cmpB,IE.den] using q
  have:=i.hj;omega
 clear q hJ;have hpl:=dD W h3;rw[hje,List.take_length,<- hY2];have hZl:(l++(aC kc.toNat++dL W)).length<=l.length+18+18*32:=by rw[hY2,List.length_append];omega
 clear hY2 hYl hje hpl;refine ga env fw aA ?_;refine cY bN [IntKind.u64.wrap kr,IntKind.u64.wrap kb] fun g=>?_;refine ga env fw aA ?_;refine dQ [kr.toNat,kb.toNat] (zW h1.1 (by omega) h2.1 (by omega)) (by simp;omega) (by simp only[List.length_cons,List.length_nil];omega) fun v5=>?_;refine ga env fw aA ?_;refine fa env fw ?_;intro B u F;refine⟨rfl,_,?_,F.gr⟩;rw[<- hPW,iW,<- List.append_assoc (aC kc.toNat),<- List.append_assoc l];have:=F.wr;rw[show aE [kr.toNat,kb.toNat]=aC kr.toNat++aC kb.toNat by simp[aE]]at this;exact this
