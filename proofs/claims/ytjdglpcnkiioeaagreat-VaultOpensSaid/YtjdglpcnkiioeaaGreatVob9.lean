/- For vltopens_law_holds. -/
import Derived.Laws.LoneSync
import Derived.Test.YtjdglpcnkiioeaaGreatVob7
namespace Go.Proofs.YtjdglpcnkiioeaaGreat
open Go.Lib (hid)
open Go.RowKit Go.Maps Go.Proofs.Own

structure eH (w:World)(b:Nat)(c:Int):Prop where
 c0:w.cell? ⟨b,0,none⟩=some (.int .u64 c)
 cn:w.cell? ⟨b,16,none⟩=some (.int .i64 1)
 f0:w.frozen? ⟨b,0,none⟩=false
theorem eH.lt {w:World}{b:Nat}{c:Int}(h:eH w b c):b<w.heap.size:=World.block_lt_of_cell? _ _ h.c0
theorem eH.kept {w w':World}{b:Nat}{c:Int}{S:Nat->Prop}(h:eH w b c)(hk:Kept w w' S)(hs:¬S b):eH w' b c :=
 ⟨hk.cell h.c0 hs,hk.cell h.cn hs,(hk.frozen (a:=⟨b,0,none⟩) h.lt hs).trans h.f0⟩
theorem eH.below {w w':World}{b:Nat}{c:Int}(h:eH w b c)(hb:Below w.heap.size w w'):eH w' b c :=
 h.kept (Kept.aL hb (S:=fun _=>False) fun k h1 h2=>by omega) fun h=>h

theorem aLj (w:World):Calls Tryz.prog 66 #[.int .i64 1] w fun e w'=>e = .returned (.pointer (some ⟨w.heap.size,0,none⟩))/\eH w' w.heap.size 0/\Below w.heap.size w w':=by
 go_enter Tryz.func66,Tryz.ntmps66;go_wp2_with fail;go_ret;refine⟨rfl,⟨by go_cell,by go_cell,by simp⟩,(Below.refl _ _).alloc (Nat.le_refl _) _⟩

theorem aLi (b:Nat)(c:Int)(w:World)(h:eH w b c):Calls Tryz.prog 231 #[.pointer (some ⟨b,0,none⟩)] w fun e w'=>e = .returned (.int .i64 1)/\w=w':=by
 have c1:=h.cn;clear h;go_enter Tryz.func231,Tryz.ntmps231;go_wp2_with fail;go_ret;exact⟨rfl,rfl⟩

theorem mat (b:Nat)(c:Int)(w:World)(h:eH w b c):Calls Tryz.prog 190 #[.pointer (some ⟨b,0,none⟩),.int .i64 0] w fun e w'=>e = .returned (.tuple #[.pointer (some ⟨b,0,none⟩),.int .i64 0])/\w=w':=by
 have H:=hid h;have c1:=h.cn;have c0:=h.c0;clear h;go_enter Tryz.func190,Tryz.ntmps190;go_wp2_with fail;refine(aLi b c _ H.out).mono ?_;rintro e w1 ⟨rfl,rfl⟩;go_wp2_with fail
 go_ret2
 exact⟨rfl,rfl⟩

theorem aJB (b:Nat)(c:Int)(w:World)(h:eH w b c):Calls Tryz.prog 191 #[.pointer (some ⟨b,0,none⟩)] w fun e w'=>e = .returned (.int .u64 c)/\w=w':=by
 have c0:=h.c0;clear h;have hl:=run_call_load (P:=Tryz.prog) Tryz.func232 (by kernel_rfl) (by kernel_rfl) (by kernel_rfl) .u64 (by kernel_rfl) c0;go_enter Tryz.func191,Tryz.ntmps191;go_wp2_with fail;go_ret;exact⟨rfl,rfl⟩

theorem aLh (b:Nat)(c d:Int)(w:World)(h:eH w b c):Calls Tryz.prog 223 #[.pointer (some ⟨b,0,none⟩),.int .u64 c,.int .u64 d] w fun e w'=>e = .returned (.bool true)/\eH w' b d/\Kept w w' (fun k=>k=b):=by
 have H:=hid h;have c0:=h.c0;have f0:=h.f0;clear h;have hl:=run_call_cas_hit (P:=Tryz.prog) Tryz.func251 (by kernel_rfl) (by kernel_rfl) (by kernel_rfl) .u64 (by kernel_rfl) (y:=d) c0 f0;go_enter Tryz.func223,Tryz.ntmps223;go_wp2_with fail;go_ret;refine⟨rfl,⟨css H.out.c0,?_,by rw[fsc];exact H.out.f0⟩,Kept.setCell w ⟨b,0,none⟩ _⟩;rw[cso (by simp)];exact H.out.cn

theorem aKP (n:Int)(w:World)(h:n<=4611686018427387904):Calls Tryz.prog 181 #[.int .u64 n] w fun e w'=>e = .returned (.tuple #[.int .u64 n,.int .i64 0])/\w=w':=by
 go_enter Tryz.func181,Tryz.ntmps181;go_wp2_with fail
 go_ret2
 exact⟨rfl,rfl⟩

theorem aIQ (g:Nat)(c:Int)(w:World)(h0:0<=c)(h1:c<=1000000000000)(hc:w.cell? ⟨g,0,none⟩=some (.int .u64 1)) :
  Calls Tryz.prog 180 #[.int .u64 c,.pointer (some ⟨g,0,none⟩)] w fun e w'=>e = .returned (.tuple #[.int .u64 (c+1),.int .i64 0])/\w=w':=by
 go_enter Tryz.func180,Tryz.ntmps180;go_wp2_with fail;refine(aKP _ _ (by omega)).mono ?_;rintro e w1 ⟨rfl,rfl⟩;go_wp2_with fail
 go_ret2
 exact⟨rfl,rfl⟩

theorem aKQ (b g:Nat)(c:Int)(w:World)(h:eH w b c)(h0:0<=c)(h1:c<=1000000000000)(hc:w.cell? ⟨g,0,none⟩=some (.int .u64 1)) :
  Calls Tryz.prog 179 #[.pointer (some ⟨b,0,none⟩),.int .i64 0,.func (.func 180) #[] #[.pointer (some ⟨g,0,none⟩)]] w fun e w'=>e = .returned (.tuple #[.int .u64 c,.int .u64 (c+1),.int .i64 0])/\eH w' b (c+1)/\Kept w w' (fun k=>k=b):=by
 have H:=hid h;have HC:=hid hc;have H01:=hid (And.intro h0 h1);clear h hc;go_enter Tryz.func179,Tryz.ntmps179;go_wp2_with fail
 go_step3
 go_wp2_with fail;refine(mat b c _ H.out).mono ?_;rintro e w1 ⟨rfl,rfl⟩;go_wp2_with fail
 go_step3
 go_wp2_with fail;refine(aJB b c _ H.out).mono ?_;rintro e w1 ⟨rfl,rfl⟩;go_wp2_with fail;refine(aIQ g c _ H01.out.1 H01.out.2 HC.out).mono ?_;rintro e w1 ⟨rfl,rfl⟩;go_wp2_with fail;refine(aLh b c (c+1) _ H.out).mono ?_;rintro e w2 ⟨rfl,h2,k2⟩;have H2:=hid h2;have K2:=hid k2;clear h2 k2;go_wp2_with fail
 try rw[Exit.noGoto_ret]
 go_ret3
 exact⟨rfl,H2.out,K2.out⟩

theorem aLg (b:Nat)(c:Int)(w:World)(h:eH w b c)(h0:0<=c)(h1:c<=1000000000000) :
  Calls Tryz.prog 137 #[.pointer (some ⟨b,0,none⟩),.int .i64 0,.int .u64 1] w fun e w'=>e = .returned (.tuple #[.int .u64 (c+1),.int .i64 0])/\eH w' b (c+1)/\Kept w w' (fun k=>k=b):=by
 have H:=hid h;have H01:=hid (And.intro h0 h1);have HL:=hid h.lt;clear h;go_enter Tryz.func137,Tryz.ntmps137;go_wp2_with fail;refine(aKQ b w.heap.size c _ (H.out.below ((Below.refl _ _).alloc (Nat.le_refl _) _)) H01.out.1 H01.out.2 (by go_cell)).mono ?_;rintro e w2 ⟨rfl,h2,k2⟩;have H2:=hid h2;have K2:=hid k2;clear h2 k2;go_wp2_with fail
 go_ret2
 exact⟨rfl,H2.out,(Kept.alloc w _ _).trans K2.out⟩
