/- Several texts in one: Vtx for vltkeeps_law_holds. No conditions but those stated. -/
import Derived.Test.YtjdglpcnkiioeaaGreatVkb42
import Derived.Test.YtjdglpcnkiioeaaGreatVkb41
set_option maxHeartbeats 16000000
namespace Go.Proofs.YtjdglpcnkiioeaaGreat
open Go.Lib (hid)
open Go.RowKit Go.Maps Go.Proofs.Own Go.Shelf

def aGr:TOp:=⟨-1,0,0,.slice none 0 0,[],0,0,0,0,none,0,0,none,0,0,.slice none 0 0,[]⟩
theorem aJU {D:aA} (hd:D.down = false) (k:Nat):(uH D k).2 = 0:=by
 unfold uH
 rw [if_neg (by rw [hd];decide),if_neg (by omega)]
theorem vM {w:World} {b:VB} {ev fv:Value} {el:bE} {D:aA} {V:cB} (h:aV w b ev fv el D V) {z:Int} {q:Nat} (hl:V.L.last <= H59) (hn:V.L.es.length <= 131072) (hz:∃ si:Nat,V.s.i = si /\ z = ((si + 1:Nat):Int) /\ V.L.b <= si /\ si + q = V.L.last) :
  Calls Tryz.prog 52 #[.pointer (some ⟨b.vb,0,none⟩),.int .u64 z,.int .i64 1048576] w fun e w'=>∃ (a:Option Addr) (c:Nat) (al:bE),e = .returned (.slice a q c) /\ cA w' 38 3 (.slice a q c) (aL al) /\ al.map (·.1) = bU V /\ bM w' (fun k=>k < w.heap.size) al /\ (∀ b,(Value.slice a q c).ownBlock = some b -> w.heap.size <= b) /\ Below w.heap.size w w':=by
 obtain ⟨si,h1,rfl,h3,h4⟩:=hz
 refine (aIE h hl (by omega) (si + 1) (by unfold H59 at hl;omega) 1048576 (by decide)).mono ?_
 rintro e w' ⟨v',l',rfl,ho,hm,hd,hn2,hb⟩
 obtain ⟨a,c,rfl,_⟩:=ho.shape
 have hfr:yI V.L (si + 1) 1048576 = bU V:=by
  unfold yI bU
  rw [h1,Int.toNat_natCast,show max (si + 1) (V.L.b + 1) - (V.L.b + 1) = si - V.L.b by omega]
  refine List.take_of_length_le ?_
  rw [List.length_drop]
  show _ <= 1048576
  omega
 have hlen:(aL l').length = q:=by
  rw [aK]
  have:=congrArg List.length hm
  rw [List.length_map,hfr] at this
  rw [this]
  unfold bU
  rw [List.length_drop,h1,Int.toNat_natCast]
  unfold aM.last at h4
  omega
 rw [hlen] at ho hn2 ⊢
 exact ⟨a,c,l',rfl,ho,hm.trans hfr,hd,hn2,hb⟩

theorem gC {w:World} {b:VB} {ev fv:Value} {el:bE} {D:aA} {V:cB} (h:aV w b ev fv el D V) {z1 z2:Int} (h1:V.t = z1) (h2:V.v = z2):Calls Tryz.prog 51 #[.pointer (some ⟨b.vb,0,none⟩)] w fun e w'=>e = .returned (.agg #[.int .u64 z1,.int .i64 z2]) /\ Below w.heap.size w w':=by
 subst h1 h2
 exact vN h
theorem aCQ {w:World} {e e':TypeId} {sz n' B:Nat} {v v':Value} {rs:List (List Value)} {xs:List Value} (h:cA w e sz v rs) (h':w.ownsRow B e' 1 v' n' xs) (hne:e ≠ e') {k:Nat} (h1:v.ownBlock = some k) (h2:v'.ownBlock = some k):False:=by
 rcases h.own with ⟨rfl,_⟩ | ⟨g,cap,cur,rfl,hg,_⟩
 ·cases h1
 ·obtain rfl:g = k:=Option.some.inj h1
  rcases h'.2 with ⟨rfl,_⟩ | ⟨g',cap',cur',rfl,_,hg',_⟩
  ·cases h2
  ·obtain rfl:g' = g:=Option.some.inj h2
   rw [hg] at hg'
   injection hg' with hg'
   injection hg' with _ hg' _
   exact hne hg'
theorem uP {V:cB} {k:Int} {a n:Nat} (hn:n = (bU V).length) (h:¬ (k = 1 /\ V.s.i < (a:Int))):n = gR V k a:=by
 unfold gR
 rw [if_neg h]
 exact hn
theorem aCG {V:cB} {k:Int} {a n si d:Nat} (hk:k = 1) (hs:V.s.i = si) (hn:n = (bU V).length) (hgt:si < a) (hd:a - si - 1 = d):gR V k a = min d n:=by
 unfold gR
 rw [if_pos ⟨hk,by rw [hs];omega⟩,<- hn,hs,Int.toNat_natCast,hd]
theorem aGj {V:cB} {k:Int} {a n si d:Nat} (hk:k = 1) (hs:V.s.i = si) (hn:n = (bU V).length) (hgt:si < a) (hd:a - si - 1 = d) (h:d < n):d = gR V k a:=by
 rw [aCG hk hs hn hgt hd]
 exact (Nat.min_eq_left (Nat.le_of_lt h)).symm
theorem aGi {V:cB} {k:Int} {a n si d:Nat} (hk:k = 1) (hs:V.s.i = si) (hn:n = (bU V).length) (hgt:si < a) (hd:a - si - 1 = d) (h:¬ d < n):n = gR V k a:=by
 rw [aCG hk hs hn hgt hd]
 exact (Nat.min_eq_right (Nat.le_of_not_lt h)).symm
theorem aFy (al:bE) (m:Nat) (t:Int):(jJ al m t).length <= al.length:=by
 unfold jJ
 split
 ·rw [List.length_drop];omega
 ·exact Nat.zero_le _
theorem qO {D:aA} {V:cB} (hv:gO D V):∃ (zj:Int) (q:Nat),q = (bU V).length /\ (∃ si:Nat,V.s.i = si /\ zj = ((si + 1:Nat):Int) /\ V.L.b <= si /\ si + q = V.L.last) /\ IntKind.u64.wrap (V.s.i + 1) = zj /\ V.L.last <= H59 /\ V.L.es.length <= 131072 /\ q <= 131072:=by
 obtain ⟨P,hi⟩:=hv.cut.inv
 obtain ⟨e1,e2,e3,e4⟩:=qH hv
 have hes:=(hi.lok hv.cut.fB).2
 have hl:V.L.last <= H59:=hi.hi
 have h59:=hv.sf.range
 refine ⟨V.s.i + 1,(bU V).length,rfl,⟨V.s.i.toNat,e4.symm,by omega,e2,by omega⟩,?_,hl,hes,?_⟩
 ·rw [wrap_u64]
  omega
 ·rw [e1]
  unfold aM.last at *
  omega
theorem aDT (w:World):mN w (.slice none 0 0) []:=⟨cS.nil _ _,fun p hp=>by cases hp⟩
theorem aC6 (w:World):cG w (.agg #[.int .u64 ((0:Nat):Int),.int .u64 0,.slice none 0 0,.slice none 0 0]) ⟨((0:Nat):Int),0,[],[]⟩:=⟨_,_,rfl,Ints.nil w,Bytes.nil w⟩
def aKq (w wz:World) (db mb tb stB snB laB:Nat) (av:Value):Prop :=
 ∃ (D1 D2:aA) (V1:cB) (al ml:bE) (a':Option Addr) (n' c':Nat) (q:TOp) (xms:List Int) (xd:List Nat),av = .slice a' n' c' /\ aG wz db mb tb D2 /\ gO D1 V1 /\ KS wz (bB db mb tb) stB snB laB V1.t V1.v V1.s av al q /\ al.map (·.1) = bU V1 /\ (∀ k,av.ownBlock = some k -> w.heap.size <= k) /\ (∀ k,bB db mb tb k -> w.heap.size <= k) /\ Below w.heap.size w wz /\ D2.steps <= 200000 /\ (-1 <= q.k /\ q.k <= 3) /\ mN w q.lv ml /\ ml.length <= 100 /\
  cG w (.agg #[.int .u64 q.i,.int .u64 q.t,.slice q.am q.nm q.cm,.slice q.ad q.nd q.cd]) ⟨(q.i:Int),q.t,xms,xd⟩ /\ (q.a:Int) < 18446744073709551616 /\ (q.i:Int) < 18446744073709551616 /\
  ∃ t' v' s L,VCr D2 V1.t V1.v t' v' s L /\ ∀ D' V',sQ D2 V1.t V1.v t' v' s L D' V' -> xM V1 q.k q.a (ml.map (·.1)) q.st q.sv ⟨(q.i:Int),q.t,xms,xd⟩ D' V'
def xG:Nat -> Code -> Code
 | n+1,.seq _ b=>xG n b
 | _,c=>c
def aKr (w wv:World) (sB snB z4 CB s4 si _gq:Nat) (V1 V4:cB) (sm sd nm nd gv:Value) (gl ml:bE) (qk:Int) (qa:Nat) (av lv:Value):Prop :=
 ∃ (aa:Option Addr) (an ac:Nat) (m:bE) (lz:Nat),av = .slice aa an ac /\ lv = .int .i64 lz /\ cS wv 3 (.slice aa an ac) (aL m) /\ bM wv (fun _=>False) m /\ m.length = an /\ an <= 2000000 /\ m.map (·.1) = sT V1 qk (ml.map (·.1)) /\ lz = gR V1 qk qa /\ cS wv 3 gv (aL gl) /\ bM wv (fun _=>False) gl /\ bX wv sB (s4:Int) V4.s.t sm sd /\ iH wv z4 sm sd V4.s /\ bX wv snB (si:Int) V1.s.t nm nd /\ iH wv CB nm nd V1.s /\ Below w.heap.size w wv
set_option maxRecDepth 20000 in
theorem aEB {x0 x1 x2 x3 x4 x5 x6 x7 x8 x9 x10 x11 x13 x15 x16 x17 x19 x22 x23 x24 x25 x26 x27 x28 x29 x30 x31 x32 x33 x34 x35 x36 x37 x38 x39 x40 x41 x42 x43 x44 x45 x46 x47 x48 x49 x50 x51 x52 x53 x54 x55 x56 x57 x58 x59 x60 x61 x62 x63 x64 x65 x66 x67 x68 x69 x70 x71 x72 x73 x74 x75 x76 x77 x78 x79 x80 x81 x82 x83 x84 x85 x86 x87 x88 x89 x90 x91 x92 x93 x94 x95 x96 x97 x98 x99 x100 x101 x102 x103 x104 x105 x106 x107 x108 x109 x110 x111 x112 x113 x114 x115 x116 x117 x118 x119 x120 x121 x122 x123 x124 x125 x126 x127 x128 x129 x130 x131 x132 x133 x134 x135 x136 x137 x138 x139 x140 x141 x142 x143 x144 x145 x146 x147 x148 x149 x150 x151 x152 x153 x154 x155 x156 x157 x158 x159 x160 x161 x162 x163 x164 x165 x166 x167 x168 x169 x170 x171 x172 x173 x174 x175 x176 x177 x178 x179 x180 x181 x182 x183 x184 x185 x186 x187 x188 x189 x190 x191 x192 x193 x194 x195 x196 x197 x198 x199 x200 x201 x202 x203 x204 x205 x206 x207 x208 x209 x210 x211 x212 x213 x214 x215 x216 x217 x218 x219 x220 x221 x222 x223 x224 x225 x226 x227 x228:Value} {w wc:World} {sB snB z4 CB s4 si gq gc nm cm nd cd cnm ccm cnd ccd:Nat} {ga am ad cam cad:Option Addr} {V1 V4:cB} {gl ml:bE} {qk:Int} {qa:Nat} {av lv:Value} (hSI:V1.s.i = si) (hS4:V4.s.i = s4) (hGL:gl.length = gq) (h6:gq <= 131072) (h1:gq = (bU V4).length) (hGE:gl.map (·.1) = bU V4) (hIN:V4.s = V1.s /\ gR V1 qk qa <= (bU V4).length /\ (bU V4).length <= (sT V1 qk (ml.map (·.1))).length /\ bU V4 = (sT V1 qk (ml.map (·.1))).take (bU V4).length) (hcut:aKr w wc sB snB z4 CB s4 si gq V1 V4 (.slice am nm cm) (.slice ad nd cd) (.slice cam cnm ccm) (.slice cad cnd ccd) (.slice ga gq gc) gl ml qk qa av lv) :
  Code.wp Tryz.prog (xG 19 (Tryz.f9.body.getD .skip)) (bodyPost Tryz.prog Tryz.f9 fun e w'=>e = .returned (.bool true) /\ Below w.heap.size w w') ⟨#[x0,x1,x2,x3,x4,x5,x6,x7,x8,x9,x10,x11,.pointer (some ⟨snB,0,none⟩),x13,av,x15,x16,x17,.pointer (some ⟨sB,0,none⟩),x19,.slice ga gq gc,lv,x22,x23,x24,x25,x26,x27,x28,x29,x30,x31,x32,x33,x34,x35,x36,x37,x38,x39,x40,x41,x42,x43,x44,x45,x46,x47,x48,x49,x50,x51,x52,x53,x54,x55,x56,x57,x58,x59,x60,x61,x62,x63,x64,x65,x66,x67,x68,x69,x70,x71,x72,x73,x74,x75,x76,x77,x78,x79,x80,x81,x82,x83,x84,x85,x86,x87,x88,x89,x90,x91,x92,x93,x94,x95,x96,x97,x98,x99,x100,x101,x102,x103,x104,x105,x106,x107,x108,x109,x110,x111,x112,x113,x114,x115,x116,x117,x118,x119,x120,x121,x122,x123,x124,x125,x126,x127,x128,x129,x130,x131,x132,x133,x134,x135,x136,x137,x138,x139,x140,x141,x142,x143,x144,x145,x146,x147,x148,x149,x150,x151,x152,x153,x154,x155,x156,x157,x158,x159,x160,x161,x162,x163,x164,x165,x166,x167,x168,x169,x170,x171,x172,x173,x174,x175,x176,x177,x178,x179,x180,x181,x182,x183,x184,x185,x186,x187,x188,x189,x190,x191,x192,x193,x194,x195,x196,x197,x198,x199,x200,x201,x202,x203,x204,x205,x206,x207,x208,x209,x210,x211,x212,x213,x214,x215,x216,x217,x218,x219,x220,x221,x222,x223,x224,x225,x226,x227,x228],[]⟩ wc:=by
 conv=>arg 2;whnf
 have HSI:=hid hSI
 have HS4:=hid hS4
 have HGL:=hid hGL
 have N6:=hid h6
 have N1:=hid h1
 have GE:=hid hGE
 have HIN:=hid hIN
 clear hSI hS4 hGL h6 h1 hGE hIN
 obtain ⟨aa,an,ac,m,lz,rfl,rfl,k1,k2,k3,k4,k5,k6,k7,k8,k9,k10,k11,k12,k13⟩:=hcut
 have HSM:Hid (V4.s.rI V1.s = true):=hid (by rw [HIN.out.1];exact aZ.zD _)
 have SA:Hid (cG wc (.agg #[.int .u64 (s4:Int),.int .u64 V4.s.t,.slice am nm cm,.slice ad nd cd]) V4.s):=hid (by rw [<- HS4.out];exact k10.is)
 have SS:Hid (cG wc (.agg #[.int .u64 (si:Int),.int .u64 V1.s.t,.slice cam cnm ccm,.slice cad cnd ccd]) V1.s):=hid (by rw [<- HSI.out];exact k12.is)
 have HGM:Hid (lz <= gq /\ gq <= an /\ gl.map (·.1) = (m.take gq).map (·.1)):=hid (by
  obtain ⟨_,i1,i2,i3⟩:=HIN.out
  rw [<- k5,List.length_map,k3] at i2
  rw [<- N1.out] at i1 i2 i3
  exact ⟨by rw [k6];exact i1,i2,by rw [GE.out,i3,<- k5,List.map_take]⟩)
 have b1:decide (lz <= gq) = true:=decide_eq_true HGM.out.1
 have b2:decide (gq <= an) = true:=decide_eq_true HGM.out.2.1
 obtain ⟨vc,hsc,_,hcut⟩:=cS.aHs (P:=Tryz.prog) (t:=23) Tryz.underlying23 (by kernel_rfl) k1 gq (by rw [aK,k3];exact HGM.out.2.1)
 rw [show (aL m).take gq = aL (m.take gq) by unfold aL;rw [List.map_take]] at hsc
 have SC:=hid hsc
 have DM:Hid (bM wc (fun _=>False) (m.take gq)):=hid (k2.sub fun p hp=>List.mem_of_mem_take hp)
 have HML3:Hid ((m.take gq).length <= 2147483648):=hid (by rw [List.length_take];omega)
 have SG:=hid k7
 have DG:=hid k8
 have BF:=hid k13
 obtain ⟨ac',nc',cc',rfl⟩:∃ a n c,vc = Value.slice a n c:=by obtain ⟨a,c,e,_⟩:=hsc.shape;exact ⟨a,_,c,e⟩
 obtain ⟨s0,s1,s2,s3,_,_,_,_⟩:=k9
 obtain ⟨q0,q1,q2,q3,_,_,_,_⟩:=k11
 clear k1 k2 k3 k4 k5 k6 k7 k8 k10 k12 k13 hsc HIN
 go_wp2_with fail
 refine (aAV _ _ V4.s V1.s wc SA.out SS.out).mono ?_
 rintro e w5 ⟨rfl,hb5⟩
 have B5:=hid hb5
 rw [HSM.out]
 clear hb5 s0 s1 s2 s3 q0 q1 q2 q3
 go_wp2_with fail
 refine (aAF (SG.out.below B5.out) (bM.kept DG.out (Kept.aJ B5.out (S:=fun _=>False) fun k h1 h2=>by omega) fun _ h=>h) (SC.out.below B5.out) (bM.kept DM.out (Kept.aJ B5.out (S:=fun _=>False) fun k h1 h2=>by omega) fun _ h=>h) (by have:=HGL.out;have:=N6.out;omega) HML3.out).mono ?_
 rintro e w6 ⟨r,rfl,hr,hb6⟩
 have B6:Hid (Below w.heap.size w w6):=hid ((BF.out.trans (B5.out.mono BF.out.size)).trans (hb6.mono (Nat.le_trans BF.out.size B5.out.size)))
 obtain rfl:r = true:=hr.2 HGM.out.2.2
 clear hr hb6
 go_wp2_with fail
 refine (oP _).mono ?_
 rintro e w7 ⟨rfl,hb7⟩
 have B7:Hid (Below w.heap.size w w7):=hid (B6.out.trans (hb7.mono B6.out.size))
 clear hb7
 go_wp2_with fail
 go_ret
 exact ⟨rfl,B7.out⟩
set_option maxRecDepth 20000 in
theorem aEA {x0 x1 x2 x3 x4 x5 x6 x7 x8 x9 x10 x13 x15 x16 x17 x19 x21 x22 x23 x24 x25 x26 x27 x28 x29 x30 x31 x32 x33 x34 x35 x36 x37 x38 x39 x40 x41 x42 x43 x44 x45 x46 x47 x48 x49 x50 x51 x52 x53 x54 x55 x56 x57 x58 x59 x60 x61 x62 x63 x64 x65 x66 x67 x68 x69 x70 x71 x72 x73 x74 x75 x76 x77 x78 x79 x80 x81 x82 x83 x84 x85 x86 x87 x88 x89 x90 x91 x92 x93 x94 x95 x96 x97 x98 x99 x100 x101 x102 x103 x104 x105 x106 x107 x108 x109 x110 x111 x112 x113 x114 x115 x116 x117 x118 x119 x120 x121 x122 x123 x124 x125 x126 x127 x128 x129 x130 x131 x132 x133 x134 x135 x136 x137 x138 x139 x140 x141 x142 x143 x144 x145 x146 x147 x148 x149 x150 x151 x152 x153 x154 x155 x156 x157 x158 x159 x160 x161 x162 x163 x164 x165 x166 x167 x168 x169 x170 x171 x172 x173 x174 x175 x176 x177 x178 x179 x180 x181 x182 x183 x184 x185 x186 x187 x188 x189 x190 x191 x192 x193 x194 x195 x196 x197 x198 x199 x200 x201 x202 x203 x204 x205 x206 x207 x208 x209 x210 x211 x212 x213 x214 x215 x216 x217 x218 x219 x220 x221 x222 x223 x224 x225 x226 x227 x228:Value} {w wc:World} {N:Nat -> Prop} {stB snB laB sB z4 n' c' gq gc nm cm nd cd xn xc qa qi qnm qcm qnd qcd:Nat} {a' ga am ad xa qam qad:Option Addr} {V1 V4:cB} {D1 D4:aA} {al gl ml:bE} {qk qn qst qsv qt u1 u2:Int} {qtv:Value} {ql qts:_} {xms:List Int} {xd:List Nat} (VI1:Hid (gO D1 V1)) (EQ:Hid (al.map (·.1) = bU V1)) (HAO:Hid (∀ k,(Value.slice a' n' c').ownBlock = some k -> w.heap.size <= k)) (HML:Hid (mN w (.slice xa xn xc) ml)) (HXN:Hid ((aL ml).length = xn)) (HMM:Hid (ml.length <= 100)) (HSX:Hid (cG w (.agg #[.int .u64 (qi:Int),.int .u64 qt,.slice qam qnm qcm,.slice qad qnd qcd]) ⟨(qi:Int),qt,xms,xd⟩)) (HQA:Hid ((qa:Int) < 18446744073709551616)) (HKP:Hid (xM V1 qk qa (ml.map (·.1)) qst qsv ⟨(qi:Int),qt,xms,xd⟩ D4 V4)) (HAV:Hid (∀ k,(Value.slice a' n' c').ownBlock = some k -> k < z4 /\ k < sB)) (HGN:Hid (∀ k,(Value.slice ga gq gc).ownBlock = some k -> ¬ (Value.slice a' n' c').ownBlock = some k)) (GE:Hid (gl.map (·.1) = bU V4)) (HGL:Hid (gl.length = gq)) (N1:Hid (gq = (bU V4).length)) (N6:Hid (gq <= 131072)) (KY:Hid (KS wc N stB snB laB u1 u2 V1.s (.slice a' n' c') al ⟨qk,qn,qa,.slice xa xn xc,ql,qst,qsv,qi,qt,qam,qnm,qcm,qad,qnd,qcd,qtv,qts⟩)) (XY:Hid (bX wc sB V4.s.i V4.s.t (.slice am nm cm) (.slice ad nd cd))) (SIY:Hid (iH wc z4 (.slice am nm cm) (.slice ad nd cd) V4.s)) (GSY:Hid (cS wc 3 (.slice ga gq gc) (aL gl))) (GDY:Hid (bM wc (fun _=>False) gl)) (BY:Hid (Below w.heap.size w wc)) :
  Code.wp Tryz.prog (xG 16 (Tryz.f9.body.getD .skip)) (bodyPost Tryz.prog Tryz.f9 fun e w'=>e = .returned (.bool true) /\ Below w.heap.size w w') ⟨#[x0,x1,x2,x3,x4,x5,x6,x7,x8,x9,x10,.pointer (some ⟨laB,0,none⟩),.pointer (some ⟨snB,0,none⟩),x13,.slice a' n' c',x15,x16,x17,.pointer (some ⟨sB,0,none⟩),x19,.slice ga gq gc,x21,x22,x23,x24,x25,x26,x27,x28,x29,x30,x31,x32,x33,x34,x35,x36,x37,x38,x39,x40,x41,x42,x43,x44,x45,x46,x47,x48,x49,x50,x51,x52,x53,x54,x55,x56,x57,x58,x59,x60,x61,x62,x63,x64,x65,x66,x67,x68,x69,x70,x71,x72,x73,x74,x75,x76,x77,x78,x79,x80,x81,x82,x83,x84,x85,x86,x87,x88,x89,x90,x91,x92,x93,x94,x95,x96,x97,x98,x99,x100,x101,x102,x103,x104,x105,x106,x107,x108,x109,x110,x111,x112,x113,x114,x115,x116,x117,x118,x119,x120,x121,x122,x123,x124,x125,x126,x127,x128,x129,x130,x131,x132,x133,x134,x135,x136,x137,x138,x139,x140,x141,x142,x143,x144,x145,x146,x147,x148,x149,x150,x151,x152,x153,x154,x155,x156,x157,x158,x159,x160,x161,x162,x163,x164,x165,x166,x167,x168,x169,x170,x171,x172,x173,x174,x175,x176,x177,x178,x179,x180,x181,x182,x183,x184,x185,x186,x187,x188,x189,x190,x191,x192,x193,x194,x195,x196,x197,x198,x199,x200,x201,x202,x203,x204,x205,x206,x207,x208,x209,x210,x211,x212,x213,x214,x215,x216,x217,x218,x219,x220,x221,x222,x223,x224,x225,x226,x227,x228],[]⟩ wc:=by
 conv=>arg 2;whnf
 dsimp only
 obtain ⟨si,hsi⟩:∃ si:Nat,V1.s.i = si:=⟨V1.s.i.toNat,by have:=VI1.out.sf.range.1;omega⟩
 obtain ⟨s4,hs4⟩:∃ s4:Nat,V4.s.i = s4:=⟨V4.s.i.toNat,by have:=HKP.out.inv.sf.range.1;omega⟩
 have HSI:=hid hsi
 have HS4:=hid hs4
 have H59S:Hid ((s4:Int) < 576460752303423488 /\ (si:Int) < 576460752303423488):=hid (by have h1:=HKP.out.inv.sf.range.2;have h2:=VI1.out.sf.range.2;rw [hs4] at h1;rw [hsi] at h2;exact ⟨h1,h2⟩)
 obtain ⟨cam,cnm,ccm,cad,cnd,ccd,CB,k1,k2,k3,k4⟩:=KY.out.sn
 rw [hsi] at k1
 rw [hs4] at XY
 have SNB:=hid k1
 have SNO:=hid k2
 have LAC:=hid KY.out.la.c
 clear k1 k2 k3 k4 hsi hs4
 obtain ⟨cb,hcb⟩:∃ cb,(cb = false /\ (V4.s = V1.s /\ gR V1 qk qa <= (bU V4).length /\ (bU V4).length <= (sT V1 qk (ml.map (·.1))).length /\ bU V4 = (sT V1 qk (ml.map (·.1))).take (bU V4).length)) \/ (cb = true /\ (qk = 3 /\ V4.s = ⟨(qi:Int),qt,xms,xd⟩ /\ V1.s.i < (qi:Int) /\ bU V4 = xU (bU V1) V1.s.i ⟨(qi:Int),qt,xms,xd⟩)):=by
  rcases HKP.out.es with h | h
  ·exact ⟨false,.inl ⟨rfl,h⟩⟩
  ·exact ⟨true,.inr ⟨rfl,h⟩⟩
 have HCB:=hid hcb
 clear hcb HKP
 go_upto_region 31 with fail
 go_cut [155] (fun c wy=>c = .bool cb /\ Below wc.heap.size wc wy)
 case first =>
  obtain ⟨x0,x1,x2,x3,x4,x5,x6,x7,x8,x9,x10⟩:=LAC.out
  simp only [Nat.zero_add] at x0 x1 x2 x3 x4 x5 x6 x7 x8 x9 x10
  obtain ⟨s0,s1,s2,s3,_,_,_,_⟩:=XY.out
  obtain ⟨q0,q1,q2,q3,_,_,_,_⟩:=SNB.out
  by_cases h3:qk = 3
  ·have b3:(qk == 3) = true:=beq_iff_eq.2 h3
   clear h3
   go_wp2_with fail
   have SIA:cG wc (.agg #[.int .u64 (s4:Int),.int .u64 V4.s.t,.slice am nm cm,.slice ad nd cd]) V4.s:=by
    rw [<- HS4.out]
    exact SIY.out.is
   refine (aAV _ _ V4.s ⟨(qi:Int),qt,xms,xd⟩ wc SIA (HSX.out.below BY.out)).mono ?_
   rintro e w2 ⟨rfl,hb2⟩
   clear SIA
   have HB2:=hid hb2
   have y0:=Below.at hb2 q0 (World.block_lt_of_cell? _ _ q0)
   have y1:=Below.at hb2 s0 (World.block_lt_of_cell? _ _ s0)
   obtain ⟨sb,hsb⟩:∃ sb,V4.s.rI ⟨(qi:Int),qt,xms,xd⟩ = sb:=⟨_,rfl⟩
   have HSB:=hid hsb
   rw [hsb]
   clear hsb hb2 x0 x1 x2 x3 x4 x5 x6 x7 x8 x9 x10 s0 s1 s2 s3 q0 q1 q2 q3
   cases cb with
   | false =>
    have b1:((s4:Int) != (si:Int)) = false:=by
     obtain ⟨_,h,_⟩:=HCB.out.resolve_right fun h=>by cases h.1
     rw [<- HS4.out,<- HSI.out,h]
     simp
    cases sb
    all_goals
     go_wp2_with fail
     go_meet
     exact ⟨rfl,HB2.out⟩
   | true =>
    obtain ⟨_,h1,h2,h3,h4⟩:=HCB.out.resolve_left fun h=>by cases h.1
    have b1:((s4:Int) != (si:Int)) = true:=by
     have:=congrArg aZ.i h2
     dsimp only at this
     rw [<- HS4.out,<- HSI.out]
     exact bne_iff_ne.2 (by omega)
    obtain rfl:sb = true:=by rw [<- HSB.out,h2];exact aZ.zD _
    clear h1 h2 h3 h4
    go_wp2_with fail
    go_meet
    exact ⟨rfl,HB2.out⟩
  ·have b3:(qk == 3) = false:=beq_eq_false_iff_ne.2 h3
   obtain rfl:cb = false:=by
    rcases HCB.out with h | h
    ·exact h.1
    ·exact absurd h.2.1 h3
   clear h3
   go_wp2_with fail
   go_meet
   exact ⟨rfl,Below.refl _ _⟩
 case rest =>
  obtain ⟨rfl,hby⟩:=hcut
  have KV:=hid (KY.out.below hby)
  have XV:=hid (XY.out.below hby)
  have SIV:=hid (SIY.out.kept (Kept.aJ hby (S:=fun _=>False) fun k h1 h2=>by omega) (fun _ _ h=>h) (fun _ _ h=>h))
  have GSV:=hid (GSY.out.below hby)
  have GDV:Hid (bM wc (fun _=>False) gl):=hid (bM.kept GDY.out (Kept.aJ hby (S:=fun _=>False) fun k h1 h2=>by omega) fun _ h=>h)
  have SNV:=hid (SNB.out.below hby)
  have SOV:=hid (SNO.out.kept (Kept.aJ hby (S:=fun _=>False) fun k h1 h2=>by omega) (fun _ _ h=>h) (fun _ _ h=>h))
  have BV:Hid (Below w.heap.size w wc):=hid (BY.out.trans (hby.mono BY.out.size))
  clear KY XY SIY GSY GDY SNB SNO BY LAC hby
  have HAL:Hid (al.length = n'):=hid (by
   obtain ⟨_,_,e,_⟩:=KV.out.own.shape
   rw [Value.slice.injEq] at e
   rw [e.2.1,aK])
  have HAM:Hid (n' <= 131072):=hid (by
   obtain ⟨_,q,e,_,_,_,_,h⟩:=qO VI1.out
   rw [<- HAL.out,<- List.length_map (f:=(·.1)),EQ.out,<- e]
   exact h)
  cases cb with
  | true =>
   obtain ⟨_,h1,h2,h3,h4⟩:=HCB.out.resolve_left fun h=>by cases h.1
   have HLT:Hid (si < qi):=hid (by rw [HSI.out] at h3;omega)
   have HQ9:Hid ((qi:Int) < 576460752303423488):=hid (by
    have e:=congrArg aZ.i h2
    dsimp only at e
    rw [<- e,HS4.out]
    exact H59S.out.1)
   have HEQ:Hid (gl.map (·.1) = (jJ al (qi - si) qt).map (·.1)):=hid (by
    have e:=aDA al V1.s.i ⟨(qi:Int),qt,xms,xd⟩
    dsimp only at e
    rw [HSI.out,show ((qi:Int) - (si:Int)).toNat = qi - si by omega,EQ.out] at e
    rw [GE.out,h4,HSI.out,<- e])
   obtain ⟨x0,x1,x2,x3,x4,x5,x6,x7,x8,x9,x10⟩:=KV.out.la.c
   simp only [Nat.zero_add] at x0 x1 x2 x3 x4 x5 x6 x7 x8 x9 x10
   obtain ⟨q0,q1,q2,q3,_,_,_,_⟩:=SNV.out
   clear h1 h2 h3 h4 HCB
   go_wp2_with fail
   refine (aKi KV.out.own.qA HAL.out HAM.out si qi qt qam qad qnm qcm qnd qcd HLT.out HQ9.out).mono ?_
   rintro e w3 ⟨ba,bn,bc,rfl,hs3,hb3⟩
   have S3:=hid hs3
   have B3:Hid (Below wc.heap.size wc w3):=hid hb3
   clear hb3 hs3
   go_wp2_with fail
   refine (aAF (GSV.out.below B3.out) (bM.kept GDV.out (Kept.aJ B3.out (S:=fun _=>False) fun k h1 h2=>by omega) fun _ h=>h) S3.out (bM.sub (l:=al) (bM.kept KV.out.dat.loose (Kept.aJ B3.out (S:=fun _=>False) fun k h1 h2=>by omega) fun _ h=>h) (fun p hp=>aDB hp)) (by have:=HGL.out;have:=N6.out;omega) (by have:=HAL.out;have:=HAM.out;have:=aFy al (qi - si) qt;omega)).mono ?_
   rintro e w4 ⟨r,rfl,hr,hb4⟩
   have B4:Hid (Below w.heap.size w w4):=hid ((BV.out.trans (B3.out.mono BV.out.size)).trans (hb4.mono (Nat.le_trans BV.out.size B3.out.size)))
   obtain rfl:r = true:=hr.2 HEQ.out
   clear hr hb4
   go_wp2_with fail
   refine (oP _).mono ?_
   rintro e w5 ⟨rfl,hb5⟩
   have B5:Hid (Below w.heap.size w w5):=hid (B4.out.trans (hb5.mono B4.out.size))
   clear hb5
   go_wp2_with fail
   go_ret
   exact ⟨rfl,B5.out⟩
  | false =>
   have HIN:=hid (HCB.out.resolve_right fun h=>by cases h.1).2
   clear HCB
   have HAQ:Hid (n' = (bU V1).length):=hid (by rw [<- HAL.out,<- EQ.out,List.length_map])
   have HML2:Hid (ml.length = xn):=hid (by rw [<- HXN.out,aK])
   obtain ⟨x0,x1,x2,x3,x4,x5,x6,x7,x8,x9,x10⟩:=KV.out.la.c
   simp only [Nat.zero_add] at x0 x1 x2 x3 x4 x5 x6 x7 x8 x9 x10
   go_upto_block 2 with fail
   clear x0 x1 x2 x3 x4 x5 x6 x7 x8 x9 x10
   go_cut [14,21] (fun av lv wv=>aKr w wv sB snB z4 CB s4 si gq V1 V4 (.slice am nm cm) (.slice ad nd cd) (.slice cam cnm ccm) (.slice cad cnd ccd) (.slice ga gq gc) gl ml qk qa av lv)
   case first =>
    obtain ⟨x0,x1,x2,x3,x4,x5,x6,x7,x8,x9,x10⟩:=KV.out.la.c
    simp only [Nat.zero_add] at x0 x1 x2 x3 x4 x5 x6 x7 x8 x9 x10
    obtain ⟨q0,q1,q2,q3,_,_,_,_⟩:=SNV.out
    by_cases h0:qk = 0
    ·have b0:(qk == 0) = true:=beq_iff_eq.2 h0
     have HK0:=hid h0
     clear h0
     have XS:Hid (cS wc 3 (.slice xa xn xc) (aL ml)):=hid (HML.out.1.below BV.out)
     have XD:Hid (bM wc (fun _=>False) ml):=hid (bM.kept HML.out.2 (Kept.aJ BV.out (S:=fun _=>False) fun k h1 h2=>by omega) fun _ h=>h)
     have HLL:Hid ((aL al).length + (aL ml).length <= 4294967296):=hid (by rw [aK,aK];have:=HAL.out;have:=HAM.out;have:=HMM.out;omega)
     go_wp2_with (at_builtin;refine cJ rT _ _ rfl (.slice a' n' c') (.slice xa xn xc) (aL al) (aL ml) rfl rfl KV.out.own XS.out (iB ml) XD.out.mJ (jA XD.out) rU HLL.out rfl ?_;intro v3 w3 ho3 hg3 ha3;have O3:=hid ho3;have G3:=hid (Kept.cK hg3);clear ho3 hg3 ha3)
     obtain ⟨a3,c3,e3,_⟩:=O3.out.shape
     subst e3
     have NB:=hid (fL KV.out.own)
     go_meet
     exact ⟨a3,_,c3,al ++ ml,n',rfl,rfl,by rw [gP];exact O3.out.qA,(bM.dT KV.out.dat.loose G3.out NB.out).app (bM.dT XD.out G3.out NB.out),by rw [<- gP,aK],by rw [List.length_append,aK,aK];have:=HAL.out;have:=HAM.out;have:=HMM.out;omega,
      by unfold sT;rw [if_pos HK0.out,List.map_append,EQ.out],uP HAQ.out (fun h=>absurd (h.1.symm.trans HK0.out) (by decide)),
      GSV.out.kept G3.out (.inr HGN.out),bM.dT GDV.out G3.out NB.out,XV.out.kept G3.out (fun e=>by have:=(HAV.out _ e).2;omega),SIV.out.kept G3.out (fun k hk e=>by have h1:=(HAV.out _ e).1;have h2:=(SIV.out.m.lt k hk).1;omega) (fun k hk e=>by have h1:=(HAV.out _ e).1;have h2:=(SIV.out.d.lt k hk).1;omega),
      SNV.out.kept G3.out (fun e=>KV.out.nal _ e (.inr (.inr (.inl rfl)))),SOV.out.kept G3.out (fun k hk e=>aCQ KV.out.own SOV.out.m (by decide) e hk) (fun k hk e=>aCQ KV.out.own SOV.out.d (by decide) e hk),BV.out.trans (G3.out.below BV.out.size HAO.out)⟩
    ·have b0:(qk == 0) = false:=beq_eq_false_iff_ne.2 h0
     have HALLK:Hid (al.map (·.1) = sT V1 qk (ml.map (·.1))):=hid (by unfold sT;rw [if_neg h0];exact EQ.out)
     clear h0
     by_cases h1:qk = 1
     ·have b1:(qk == 1) = true:=beq_iff_eq.2 h1
      have HK1:=hid h1
      clear h1
      by_cases hgt:si < qa
      ·obtain ⟨d,hd⟩:∃ d:Nat,qa - si - 1 = d:=⟨_,rfl⟩
       obtain ⟨e,he⟩:∃ e:Int,(qa:Int) - (si:Int) = e:=⟨_,rfl⟩
       have g1:decide (si < qa) = true:=decide_eq_true hgt
       have w1:IntKind.u64.wrap ((qa:Int) - (si:Int)) = e:=by rw [wrap_u64];have:=HQA.out;omega
       have w2:IntKind.u64.wrap (e - 1) = (d:Int):=by rw [wrap_u64];have:=HQA.out;omega
       have w3:IntKind.u64.wrap (n':Int) = (n':Int):=by rw [wrap_u64];have:=HAM.out;omega
       by_cases hlt:d < n'
       ·have g2:decide (d < n') = true:=decide_eq_true hlt
        have w4:IntKind.i64.wrap (d:Int) = (d:Int):=by simp only [IntKind.wrap_i64];have:=HAM.out;omega
        have w5:wrap64 (d:Int) = (d:Int):=by unfold wrap64;have:=HAM.out;omega
        have HLK:Hid (d = gR V1 qk qa):=hid (aGj HK1.out HSI.out HAQ.out hgt hd hlt)
        clear hgt hlt hd he
        go_wp2_with fail
        go_meet
        exact ⟨a',n',c',al,d,rfl,rfl,KV.out.own.qA,KV.out.dat.loose,HAL.out,by have:=HAM.out;omega,HALLK.out,HLK.out,GSV.out,GDV.out,XV.out,SIV.out,SNV.out,SOV.out,BV.out⟩
       ·have g2:decide (d < n') = false:=decide_eq_false hlt
        have HLK:Hid (n' = gR V1 qk qa):=hid (aGi HK1.out HSI.out HAQ.out hgt hd hlt)
        clear hgt hlt hd he
        go_wp2_with fail
        go_meet
        exact ⟨a',n',c',al,n',rfl,rfl,KV.out.own.qA,KV.out.dat.loose,HAL.out,by have:=HAM.out;omega,HALLK.out,HLK.out,GSV.out,GDV.out,XV.out,SIV.out,SNV.out,SOV.out,BV.out⟩
      ·have g1:decide (si < qa) = false:=decide_eq_false hgt
       have HLK:Hid (n' = gR V1 qk qa):=hid (uP HAQ.out fun h=>hgt (by have:=h.2;rw [HSI.out] at this;exact Int.ofNat_lt.1 this))
       clear hgt
       go_wp2_with fail
       go_meet
       exact ⟨a',n',c',al,n',rfl,rfl,KV.out.own.qA,KV.out.dat.loose,HAL.out,by have:=HAM.out;omega,HALLK.out,HLK.out,GSV.out,GDV.out,XV.out,SIV.out,SNV.out,SOV.out,BV.out⟩
     ·have b1:(qk == 1) = false:=beq_eq_false_iff_ne.2 h1
      have HLK:Hid (n' = gR V1 qk qa):=hid (uP HAQ.out fun h=>h1 h.1)
      clear h1
      go_wp2_with fail
      go_meet
      exact ⟨a',n',c',al,n',rfl,rfl,KV.out.own.qA,KV.out.dat.loose,HAL.out,by have:=HAM.out;omega,HALLK.out,HLK.out,GSV.out,GDV.out,XV.out,SIV.out,SNV.out,SOV.out,BV.out⟩
   case rest =>
    apply_assumption
    exact aEB HSI.out HS4.out HGL.out N6.out N1.out GE.out HIN.out hcut
set_option maxRecDepth 20000 in
theorem aDf {x0 x1 x3 x4 x5 x6 x8 x9 x13 x15 x16 x17 x18 x19 x20 x21 x22 x23 x24 x25 x26 x27 x28 x29 x30 x31 x32 x33 x34 x35 x36 x37 x38 x39 x40 x41 x42 x43 x44 x45 x46 x47 x48 x49 x50 x51 x52 x53 x54 x55 x56 x57 x58 x59 x60 x61 x62 x63 x64 x65 x66 x67 x68 x69 x70 x71 x72 x73 x74 x75 x76 x77 x78 x79 x80 x81 x82 x83 x84 x85 x86 x87 x88 x89 x90 x91 x92 x93 x94 x95 x96 x97 x98 x99 x100 x101 x102 x103 x104 x105 x106 x107 x108 x109 x110 x111 x112 x113 x114 x115 x116 x117 x118 x119 x120 x121 x122 x123 x124 x125 x126 x127 x128 x129 x130 x131 x132 x133 x134 x135 x136 x137 x138 x139 x140 x141 x142 x143 x144 x145 x146 x147 x148 x149 x150 x151 x152 x153 x154 x155 x156 x157 x158 x159 x160 x161 x162 x163 x164 x165 x166 x167 x168 x169 x170 x171 x172 x173 x174 x175 x176 x177 x178 x179 x180 x181 x182 x183 x184 x185 x186 x187 x188 x189 x190 x191 x192 x193 x194 x195 x196 x197 x198 x199 x200 x201 x202 x203 x204 x205 x206 x207 x208 x209 x210 x211 x212 x213 x214 x215 x216 x217 x218 x219 x220 x221 x222 x223 x224 x225 x226 x227 x228:Value} {w wc:World} {db mb tb stB snB laB:Nat} {av:Value} {ta:Option Addr} {tn tc:Nat} {ts:List (Nat × Nat)} (HTT:Hid (dV w (.slice ta tn tc) ts)) (hcut:aKq w wc db mb tb stB snB laB av) :
  Code.wp Tryz.prog (xG 9 (Tryz.f9.body.getD .skip)) (bodyPost Tryz.prog Tryz.f9 fun e w'=>e = .returned (.bool true) /\ Below w.heap.size w w') ⟨#[x0,x1,.slice ta tn tc,x3,x4,x5,x6,.pointer (some ⟨db,0,none⟩),x8,x9,.pointer (some ⟨stB,0,none⟩),.pointer (some ⟨laB,0,none⟩),.pointer (some ⟨snB,0,none⟩),x13,av,x15,x16,x17,x18,x19,x20,x21,x22,x23,x24,x25,x26,x27,x28,x29,x30,x31,x32,x33,x34,x35,x36,x37,x38,x39,x40,x41,x42,x43,x44,x45,x46,x47,x48,x49,x50,x51,x52,x53,x54,x55,x56,x57,x58,x59,x60,x61,x62,x63,x64,x65,x66,x67,x68,x69,x70,x71,x72,x73,x74,x75,x76,x77,x78,x79,x80,x81,x82,x83,x84,x85,x86,x87,x88,x89,x90,x91,x92,x93,x94,x95,x96,x97,x98,x99,x100,x101,x102,x103,x104,x105,x106,x107,x108,x109,x110,x111,x112,x113,x114,x115,x116,x117,x118,x119,x120,x121,x122,x123,x124,x125,x126,x127,x128,x129,x130,x131,x132,x133,x134,x135,x136,x137,x138,x139,x140,x141,x142,x143,x144,x145,x146,x147,x148,x149,x150,x151,x152,x153,x154,x155,x156,x157,x158,x159,x160,x161,x162,x163,x164,x165,x166,x167,x168,x169,x170,x171,x172,x173,x174,x175,x176,x177,x178,x179,x180,x181,x182,x183,x184,x185,x186,x187,x188,x189,x190,x191,x192,x193,x194,x195,x196,x197,x198,x199,x200,x201,x202,x203,x204,x205,x206,x207,x208,x209,x210,x211,x212,x213,x214,x215,x216,x217,x218,x219,x220,x221,x222,x223,x224,x225,x226,x227,x228],[]⟩ wc:=by
 conv=>arg 2;whnf
 obtain ⟨D1,D2,V1,al,ml,a',n',c',q,xms,xd,rfl,hd,hvi,hks,heq,hao,hge,hb,hst,hqk,hml,hmm,hsn,hqa,hqi,t',v',s,L,hcr,hkr⟩:=hcut
 have HDD:=hid hd
 have VI1:=hid hvi
 have KC:=hid hks
 have EQ:=hid heq
 have HAO:=hid hao
 have GO:=hid hge
 have BC:=hid hb
 have HST:=hid hst
 have HQK:=hid hqk
 have HML:=hid hml
 have HMM:=hid hmm
 have HSX:=hid hsn
 have HQA:=hid hqa
 have HQI:=hid hqi
 have HCR:=hid hcr
 have HKR:=hid hkr
 clear hd hvi hks heq hao hge hb hst hqk hml hmm hsn hqa hqi hcr hkr
 go_wp2_with fail
 refine (aDK db mb tb D2 (.slice ta tn tc) ts wc HDD.out HCR.out.fB (HTT.out.below BC.out) (aGU HTT.out GO.out)).mono ?_
 rintro e w2 ⟨rfl,hd2,hk2⟩
 have D2':=hid hd2
 have K2:=hid (KC.out.step hk2 fun _ _ h=>h)
 have B2:Hid (Below w.heap.size w w2):=hid (BC.out.trans (hk2.below BC.out.size GO.out))
 clear hd2 hk2 HDD KC BC
 go_wp2_with fail
 refine (aFS db mb tb _ w2 D2'.out).mono ?_
 rintro e w3 ⟨rfl,hd3,hk3⟩
 have D3':=hid hd3
 have K3:=hid (K2.out.step hk3 fun _ _ h=>h)
 have B3:Hid (Below w.heap.size w w3):=hid (B2.out.trans (hk3.below B2.out.size GO.out))
 clear hd3 hk3 D2' K2 B2
 go_wp2_with fail
 refine (wV D3'.out HCR.out (by have:=HST.out;omega)).mono ?_
 rintro e w4 ⟨D4,V4,hor,b2,ev,fv,el,rfl,_,_,_,hv4,hk4,ho4⟩
 have HKP:=hid (HKR.out D4 V4 hor)
 have HV4:=hid hv4
 have K4:=hid (K3.out.step hk4 fun _ _ h=>h)
 have B4:Hid (Below w.heap.size w w4):=hid (B3.out.trans (hk4.below B3.out.size GO.out))
 clear hor hv4 hk4 ho4 D3' K3 B3 HKR HCR HST GO
 go_wp2_with fail
 refine (zX HV4.out).mono ?_
 rintro e w5 ⟨am,nm,cm,ad,nd,cd,rfl,ho5,hb5⟩
 have O5:=hid ho5
 have HV5:=hid (HV4.out.below hb5)
 have HAV4:Hid (∀ k,(Value.slice a' n' c').ownBlock = some k -> k < w4.heap.size):=hid fun k hk=>tN K4.out.own hk
 have K5:=hid (K4.out.below hb5)
 have B5:Hid (Below w.heap.size w w5):=hid (B4.out.trans (hb5.mono B4.out.size))
 clear ho5 hb5 HV4 K4 B4
 dsimp only
 go_wp2_with fail
 generalize hw6:World.alloc w5 _ = w6
 have A6:Hid (Below w5.heap.size w5 w6):=hid (by subst hw6;exact (Below.refl _ _).alloc (Nat.le_refl _) _)
 have X6:Hid (bX w6 w5.heap.size V4.s.i V4.s.t (.slice am nm cm) (.slice ad nd cd)):=hid (by subst hw6;exact bX.box w5 _ _ _ _)
 have SO6:Hid (iH w6 w4.heap.size (.slice am nm cm) (.slice ad nd cd) V4.s):=hid (O5.out.kept (Kept.aJ A6.out (S:=fun _=>False) fun k h1 h2=>by omega) (fun _ _ h=>h) (fun _ _ h=>h))
 have HAV:Hid (∀ k,(Value.slice a' n' c').ownBlock = some k -> k < w4.heap.size /\ k < w5.heap.size):=hid fun k hk=>⟨HAV4.out k hk,tN K5.out.own hk⟩
 have HV6:=hid (HV5.out.below A6.out)
 have K6:=hid (K5.out.below A6.out)
 have B6:Hid (Below w.heap.size w w6):=hid (B5.out.trans (A6.out.mono B5.out.size))
 clear hw6 A6 O5 HV5 K5 B5 HAV4
 generalize w4.heap.size = z4 at *
 generalize w5.heap.size = sB at *
 obtain ⟨zj',gq,n1,n2,n3,n4,n5,n6⟩:=qO HKP.out.inv
 have N1:=hid n1
 have N4:=hid n4
 have N5:=hid n5
 have N6:=hid n6
 have NS:=hid n2
 have w1:=n3
 clear n1 n2 n3 n4 n5 n6
 refine (sO HV6.out rfl).mono ?_
 rintro e w7 ⟨rfl,hb7⟩
 have HV7:=hid (HV6.out.below hb7)
 have B7:Hid (Below w6.heap.size w6 w7):=hid hb7
 clear hb7
 go_wp2_with fail
 refine (vM HV7.out N4.out N5.out NS.out).mono ?_
 rintro e wz ⟨ga,gc,gl,rfl,ho8,he8,hd8,hn8,hb8⟩
 have B8:Hid (Below w6.heap.size w6 wz):=hid (B7.out.trans (hb8.mono B7.out.size))
 have HVZ:=hid (HV7.out.below hb8)
 have GS:Hid (cS wz 3 (.slice ga gq gc) (aL gl)):=hid ho8.qA
 have GD:Hid (bM wz (fun _=>False) gl):=hid (hd8.mono fun _ _ _ _ h=>h.elim)
 have GE:=hid he8
 have KZ:=hid (K6.out.below B8.out)
 have XZ:=hid (X6.out.below B8.out)
 have SOZ:=hid (SO6.out.kept (Kept.aJ B8.out (S:=fun _=>False) fun k h1 h2=>by omega) (fun _ _ h=>h) (fun _ _ h=>h))
 have HGN:Hid (∀ k,(Value.slice ga gq gc).ownBlock = some k -> ¬ (Value.slice a' n' c').ownBlock = some k):=hid fun k hk e=>by have h1:=tN K6.out.own e;have h2:=hn8 k hk;have h3:=B7.out.size;omega
 have BZ:Hid (Below w.heap.size w wz):=hid (B6.out.trans (B8.out.mono B6.out.size))
 clear ho8 he8 hd8 hn8 hb8 B8 B7 HV7 HV6 K6 X6 SO6 B6 w1 NS N4 N5
 have HGL:Hid (gl.length = gq):=hid (by rw [N1.out,<- GE.out,List.length_map])
 obtain ⟨qk,qn,qa,qlv,ql,qst,qsv,qi,qt,qam,qnm,qcm,qad,qnd,qcd,qtv,qts⟩:=q
 simp only at HKP HML HSX HQA HQI HQK
 obtain ⟨xa,xc,hxv,_⟩:=HML.out.1.shape
 subst hxv
 obtain ⟨xn,hxn⟩:∃ xn,(aL ml).length = xn:=⟨_,rfl⟩
 rw [hxn] at HML KZ
 have HXN:=hid hxn
 clear hxn
 have STC:Hid (SC wz stB V1.t V1.v):=hid KZ.out.st
 have LAC:=hid KZ.out.la.c
 have I:=hid (Below.refl wz.heap.size wz)
 have ST:=aP.from wz
 obtain ⟨z1,hz1⟩:∃ z1,V4.t = z1:=⟨_,rfl⟩
 obtain ⟨z2,hz2⟩:∃ z2,V4.v = z2:=⟨_,rfl⟩
 obtain ⟨u1,hu1⟩:∃ u1,V1.t = u1:=⟨_,rfl⟩
 obtain ⟨u2,hu2⟩:∃ u2,V1.v = u2:=⟨_,rfl⟩
 have HSZ:=hid HKP.out.st
 rw [hz1,hz2,hu1,hu2] at HSZ
 rw [hu1,hu2] at STC KZ
 have HZ1:=hid hz1
 have HZ2:=hid hz2
 clear hz1 hz2 hu1 hu2
 go_upto_region 29 with fail
 go_cut [139] (fun c wy=>c = .bool false /\ Below wz.heap.size wz wy)
 case first =>
  by_cases hA:z1 = u1 /\ z2 = u2
  ·obtain ⟨rfl,rfl⟩:=hA
   clear HSZ
   refine aN [0,1,0,7,15,31,63,127,255,511,1023,511,2559,8191,16383,32767,65535] 7682 (fun w'=>Below wz.heap.size wz w') (by kernel_rfl) ?_
   refine aB [0,2] (by kernel_rfl) (L:=bm 17 5) (by kernel_rfl) (f':=15) rfl (fun _ _ _ _ h=>h) (fun w o h=>ST.alloc h o) (.inr (by first | exact I.out | exact I.out.drew)) ?_
   simp only [sF,sL]
   iterate 2 (first | (refine aQ _ (by rfl) (fun w' hs=>by obtain ⟨q0,q1,_,_⟩:=STC.out.below hs;obtain ⟨x0,x1,x2,x3,x4,x5,x6,x7,x8,x9,x10⟩:=LAC.out.below hs;simp only [Nat.zero_add] at x0 x1 x2 x3 x4 x5 x6 x7 x8 x9 x10;go_simp;try with_reducible rfl) rfl ?_;simp only [Act.put,sA]) | (refine aD _ (by rfl) (fun w'=>by go_simp;try with_reducible rfl) ?_;simp only [Act.put,sA]))
   refine aE ?_
   refine aI 1 (by kernel_rfl) (L:=bm 17 7) (by kernel_rfl) ?_
   simp only [sL]
   (go_wp2_with fail;(first | (have J:Hid (Below wz.heap.size wz _):=hid (I.out);refine ((gC (HVZ.out.below J.out) HZ1.out HZ2.out)).mono ?_) | (have J:Hid (Below wz.heap.size wz _):=hid (I.out.drew);refine ((gC (HVZ.out.below J.out) HZ1.out HZ2.out)).mono ?_) | (have J:Hid (Below wz.heap.size wz _):=hid (I.out.drew.drew);refine ((gC (HVZ.out.below J.out) HZ1.out HZ2.out)).mono ?_));rintro e cx ⟨rfl,hbx⟩;have I:Hid (Below wz.heap.size wz cx):=hid (J.out.trans (hbx.mono J.out.size));clear hbx J;go_wp2_with fail)
   refine aF (fun _=>(by first | exact I.out | exact I.out.drew)) ?_
   refine aB [3,4,5,6,7,8,9,11,12] (by kernel_rfl) (L:=bm 17 7167) (by kernel_rfl) (f':=5) rfl (fun _ _ _ _ h=>h) (fun w o h=>ST.alloc h o) (.inr (by first | exact I.out | exact I.out.drew)) ?_
   simp only [sF,sL]
   iterate 9 (first | (refine aQ _ (by rfl) (fun w' hs=>by obtain ⟨q0,q1,_,_⟩:=STC.out.below hs;obtain ⟨x0,x1,x2,x3,x4,x5,x6,x7,x8,x9,x10⟩:=LAC.out.below hs;simp only [Nat.zero_add] at x0 x1 x2 x3 x4 x5 x6 x7 x8 x9 x10;go_simp;try with_reducible rfl) rfl ?_;simp only [Act.put,sA]) | (refine aD _ (by rfl) (fun w'=>by go_simp;try with_reducible rfl) ?_;simp only [Act.put,sA]) | (refine dZ (by rfl) ?_;simp only [Act.put,sA]))
   refine aE ?_
   refine aI 10 (by kernel_rfl) (L:=bm 17 8191) (by kernel_rfl) ?_
   simp only [sL]
   go_wp2_with fail
   refine aF (fun _=>(by first | exact I.out | exact I.out.drew)) ?_
   refine aB [13,14,15,16] (by kernel_rfl) (L:=bm 17 131071) (by kernel_rfl) (f':=0) rfl (fun _ _ _ _ h=>h) (fun w o h=>ST.alloc h o) (.inl (by kernel_rfl)) ?_
   simp only [sF,sL]
   iterate 4 (first | (refine aD _ (by rfl) (fun w'=>by go_simp;try with_reducible rfl) ?_;simp only [Act.put,sA]) | (refine dZ (by rfl) ?_;simp only [Act.put,sA]))
   refine aE ?_
   refine aT (by kernel_rfl) ?_
   go_wp2_with fail
   go_meet
   exact ⟨rfl,I.out⟩
  ·obtain ⟨hk2,hzt,hzv⟩:=HSZ.out.resolve_left hA
   subst hk2 hzt hzv
   clear HSZ
   have hne:((z1 == u1) = true /\ (z2 == u2) = false) \/ (z1 == u1) = false:=by
    by_cases h:z1 = u1
    ·exact .inl ⟨beq_iff_eq.2 h,beq_eq_false_iff_ne.2 fun e=>hA ⟨h,e⟩⟩
    ·exact .inr (beq_eq_false_iff_ne.2 h)
   clear hA
   rcases hne with ⟨hb1,hb2⟩ | hb1
   all_goals
    refine aN [0,1,0,7,15,31,63,127,255,511,1023,511,2559,8191,16383,32767,65535] 7682 (fun w'=>Below wz.heap.size wz w') (by kernel_rfl) ?_
    refine aB [0,2] (by kernel_rfl) (L:=bm 17 5) (by kernel_rfl) (f':=15) rfl (fun _ _ _ _ h=>h) (fun w o h=>ST.alloc h o) (.inr (by first | exact I.out | exact I.out.drew)) ?_
    simp only [sF,sL]
    iterate 2 (first | (refine aQ _ (by rfl) (fun w' hs=>by obtain ⟨q0,q1,_,_⟩:=STC.out.below hs;obtain ⟨x0,x1,x2,x3,x4,x5,x6,x7,x8,x9,x10⟩:=LAC.out.below hs;simp only [Nat.zero_add] at x0 x1 x2 x3 x4 x5 x6 x7 x8 x9 x10;go_simp;try with_reducible rfl) rfl ?_;simp only [Act.put,sA]) | (refine aD _ (by rfl) (fun w'=>by go_simp;try with_reducible rfl) ?_;simp only [Act.put,sA]))
    refine aE ?_
    refine aI 1 (by kernel_rfl) (L:=bm 17 7) (by kernel_rfl) ?_
    simp only [sL]
    (go_wp2_with fail;(first | (have J:Hid (Below wz.heap.size wz _):=hid (I.out);refine ((gC (HVZ.out.below J.out) HZ1.out HZ2.out)).mono ?_) | (have J:Hid (Below wz.heap.size wz _):=hid (I.out.drew);refine ((gC (HVZ.out.below J.out) HZ1.out HZ2.out)).mono ?_) | (have J:Hid (Below wz.heap.size wz _):=hid (I.out.drew.drew);refine ((gC (HVZ.out.below J.out) HZ1.out HZ2.out)).mono ?_));rintro e cx ⟨rfl,hbx⟩;have I:Hid (Below wz.heap.size wz cx):=hid (J.out.trans (hbx.mono J.out.size));clear hbx J;go_wp2_with fail)
    refine aF (fun _=>(by first | exact I.out | exact I.out.drew)) ?_
    refine aB [3,4,5,6,7,8,9,11,12] (by kernel_rfl) (L:=bm 17 7167) (by kernel_rfl) (f':=5) rfl (fun _ _ _ _ h=>h) (fun w o h=>ST.alloc h o) (.inr (by first | exact I.out | exact I.out.drew)) ?_
    simp only [sF,sL]
    iterate 9 (first | (refine aQ _ (by rfl) (fun w' hs=>by obtain ⟨q0,q1,_,_⟩:=STC.out.below hs;obtain ⟨x0,x1,x2,x3,x4,x5,x6,x7,x8,x9,x10⟩:=LAC.out.below hs;simp only [Nat.zero_add] at x0 x1 x2 x3 x4 x5 x6 x7 x8 x9 x10;go_simp;try with_reducible rfl) rfl ?_;simp only [Act.put,sA]) | (refine aD _ (by rfl) (fun w'=>by go_simp;try with_reducible rfl) ?_;simp only [Act.put,sA]) | (refine dZ (by rfl) ?_;simp only [Act.put,sA]))
    refine aE ?_
    refine aI 10 (by kernel_rfl) (L:=bm 17 8191) (by kernel_rfl) ?_
    simp only [sL]
    (go_wp2_with fail;(first | (have J:Hid (Below wz.heap.size wz _):=hid (I.out);refine ((gC (HVZ.out.below J.out) HZ1.out HZ2.out)).mono ?_) | (have J:Hid (Below wz.heap.size wz _):=hid (I.out.drew);refine ((gC (HVZ.out.below J.out) HZ1.out HZ2.out)).mono ?_) | (have J:Hid (Below wz.heap.size wz _):=hid (I.out.drew.drew);refine ((gC (HVZ.out.below J.out) HZ1.out HZ2.out)).mono ?_));rintro e cx ⟨rfl,hbx⟩;have I:Hid (Below wz.heap.size wz cx):=hid (J.out.trans (hbx.mono J.out.size));clear hbx J;go_wp2_with fail)
    refine aF (fun _=>(by first | exact I.out | exact I.out.drew)) ?_
    refine aB [13,14,15,16] (by kernel_rfl) (L:=bm 17 131071) (by kernel_rfl) (f':=0) rfl (fun _ _ _ _ h=>h) (fun w o h=>ST.alloc h o) (.inl (by kernel_rfl)) ?_
    simp only [sF,sL]
    iterate 4 (first | (refine aD _ (by rfl) (fun w'=>by go_simp;try with_reducible rfl) ?_;simp only [Act.put,sA]) | (refine dZ (by rfl) ?_;simp only [Act.put,sA]))
    refine aE ?_
    refine aT (by kernel_rfl) ?_
    go_wp2_with fail
    go_meet
    exact ⟨rfl,I.out⟩
 case rest =>
  obtain ⟨rfl,hby⟩:=hcut
  have KY:=hid (KZ.out.below hby)
  have XY:=hid (XZ.out.below hby)
  have SIY:=hid (SOZ.out.kept (Kept.aJ hby (S:=fun _=>False) fun k h1 h2=>by omega) (fun _ _ h=>h) (fun _ _ h=>h))
  have GSY:=hid (GS.out.below hby)
  have GDY:Hid (bM wc (fun _=>False) gl):=hid (bM.kept GD.out (Kept.aJ hby (S:=fun _=>False) fun k h1 h2=>by omega) fun _ h=>h)
  have BY:Hid (Below w.heap.size w wc):=hid (BZ.out.trans (hby.mono BZ.out.size))
  clear STC LAC I ST HZ1 HZ2 HVZ KZ XZ SOZ GS GD BZ hby HSZ
  go_upto_if 139 with fail
  go_cut [] (fun wz=>wz = wc)
  case first =>
   go_wp2_with fail
   go_meet
   rfl
  case rest =>
   obtain rfl:=hcut
   apply_assumption
   exact aEA VI1 EQ HAO HML HXN HMM HSX HQA HKP HAV HGN GE HGL N1 N6 KY XY SIY GSY GDY BY
set_option maxRecDepth 20000 in
theorem aEz (w:World) (lv tv:Value) (k:Nat) (rs:List TOp) (ts:List (Nat × Nat)) (hl:pD w lv rs) (ht:dV w tv ts) (hk:k < 256) :
  Calls Tryz.prog 9 #[lv,.int .u8 k,tv] w fun e w'=>e = .returned (.bool true) /\ Below w.heap.size w w':=by
 obtain ⟨la,lc,rfl,_⟩:=hl.1.shape
 obtain ⟨ta,tc,rfl,_⟩:=ht.1.shape
 rw [List.length_map] at hl ht ⊢
 rw [List.length_map]
 have HL:=hid hl
 have HTT:=hid ht
 obtain ⟨n,hn⟩:∃ n,rs.length = n:=⟨_,rfl⟩
 have HN:=hid hn
 obtain ⟨tn,htn⟩:∃ tn,ts.length = tn:=⟨_,rfl⟩
 rw [hn] at HL ⊢
 rw [htn] at HTT ⊢
 clear hl hn ht htn
 cases hc:gE rs with
 | false =>
  have HC:=hid hc
  clear hc
  go_enter Tryz.func9,Tryz.ntmps9
  go_wp2_with fail
  refine (sK _ rs _ HL.out).mono ?_
  rintro e w0 ⟨rfl,hb0⟩
  rw [HC.out]
  have B0:=hid hb0
  clear hb0
  go_wp2_with fail
  refine (oP _).mono ?_
  rintro e w2 ⟨rfl,hb2⟩
  have B2:Hid (Below w.heap.size w w2):=hid (B0.out.trans (hb2.mono B0.out.size))
  clear hb2
  go_wp2_with fail
  go_ret
  exact ⟨rfl,B2.out⟩
 | true =>
  have HC:=hid hc
  have HFEW:Hid (n <= 60):=hid (by have:=aEC hc;have:=HN.out;omega)
  clear hc
  by_cases h40:40 < tn
  ·have z1:decide ((40:Int) < (tn:Int)) = true:=decide_eq_true (by omega)
   clear h40
   go_enter Tryz.func9,Tryz.ntmps9
   go_wp2_with fail
   refine (sK _ rs _ HL.out).mono ?_
   rintro e w0 ⟨rfl,hb0⟩
   rw [HC.out]
   have B0:=hid hb0
   clear hb0
   go_wp2_with fail
   refine (oP _).mono ?_
   rintro e w2 ⟨rfl,hb2⟩
   have B2:Hid (Below w.heap.size w w2):=hid (B0.out.trans (hb2.mono B0.out.size))
   clear hb2
   go_wp2_with fail
   go_ret
   exact ⟨rfl,B2.out⟩
  ·have z1:decide ((40:Int) < (tn:Int)) = false:=decide_eq_false (by omega)
   clear h40
   go_enter Tryz.func9,Tryz.ntmps9
   go_wp2_with fail
   refine (sK _ rs _ HL.out).mono ?_
   rintro e w0 ⟨rfl,hb0⟩
   rw [HC.out]
   have B0:=hid hb0
   clear hb0
   go_wp2_with fail
   refine (aKB 1048576 w0 (by decide) (by decide)).mono ?_
   rintro e w1 ⟨db,mb,tb,rfl,hd1,hb1,h1,h2,h3⟩
   have D1:Hid (aG w1 db mb tb (fI (cW (aI1 1048576) []))):=hid hd1
   have B1:Hid (Below w.heap.size w w1):=hid (B0.out.trans (hb1.mono B0.out.size))
   have HO3:Hid (∀ k,bB db mb tb k -> w.heap.size <= k):=hid (by have:=B0.out.size;rintro k (rfl | rfl | rfl) <;> omega)
   clear hd1 hb1 h1 h2 h3 z1
   go_wp2_with fail
   refine (wV D1.out (aI2 (by decide) (by decide)) (by show (0:Int) + 3000 <= _;decide)).mono ?_
   rintro e w2 ⟨D0,V,hor,b,ev,fv,el,rfl,e1,e2,e3,hv,hk2,ho⟩
   have VI0:=hid hor.inv
   have SZ0:Hid (D0.steps <= 1000):=hid (by have h:D0.steps <= 0 + 600:=hor.steps;omega)
   have HV0:=hid hv
   have RB0:=hid (aAi.make hv)
   have HBZ:Hid (w.heap.size <= w2.heap.size):=hid (by have:=B1.out.size;have:=hk2.size;omega)
   obtain ⟨z2,hz2⟩:∃ z2,w2.heap.size = z2:=⟨_,rfl⟩
   rw [hz2] at RB0
   have HZ2:Hid (z2 <= w2.heap.size):=hid (by omega)
   clear hz2
   have GE:Hid (∀ k,gH b ev fv k -> w.heap.size <= k):=hid (fun k hk=>(ho k hk).elim (HO3.out k) (fun e=>by have:=B1.out.size;omega))
   have B2:Hid (Below w.heap.size w w2):=hid (B1.out.trans (hk2.below B1.out.size HO3.out))
   have HE:Hid (b.db = db /\ b.mb = mb /\ b.tb = tb):=hid ⟨e1,e2,e3⟩
   clear hor hv hk2 ho e1 e2 e3 B0 B1 D1 HO3
   obtain ⟨rfl,rfl,rfl⟩:=HE.out
   clear HE
   have wk:IntKind.i64.wrap (k:Int) = (k:Int):=by simp only [IntKind.wrap_i64];omega
   have wk2:wrap64 (k:Int) = (k:Int):=by unfold wrap64;omega
   have ea0:(((uH D0 (k:Int)).2:Nat):Int) = 0:=by rw [aJU VI0.out.cut.up k];rfl
   have WA:=aHw b.db b.mb b.tb D0 (k:Int) w2 HV0.out.log.dN
   unfold cV at WA
   rw [ea0] at WA
   have HWA:=hid WA
   clear WA ea0
   go_wp2_with fail
   refine HWA.out.mono ?_
   rintro e w3 ⟨rfl,hd3,hk3⟩
   have HA:=hid (VI0.out.arm (n:=(k:Int)) (by omega))
   have HV:=hid (HV0.out.jT hd3 hk3)
   have RB3:=hid (RB0.out.kept hk3)
   have HZ3:Hid (z2 <= w3.heap.size):=hid (Nat.le_trans HZ2.out hk3.size)
   have VI:=hid HA.out.1
   have SZ:Hid ((uH D0 (k:Int)).1.steps <= 1000):=hid (by rw [HA.out.2.1];exact SZ0.out)
   have HBZ3:Hid (w.heap.size <= w3.heap.size):=hid (Nat.le_trans HBZ.out hk3.size)
   have B3:Hid (Below w.heap.size w w3):=hid (B2.out.trans (hk3.below B2.out.size fun q e=>GE.out q (.inr (.inr (.inr (.inr (.inl e)))))))
   clear hd3 hk3 HV0 VI0 SZ0 HA HWA B2 wk wk2 RB0 HZ2 HBZ
   generalize (uH D0 (k:Int)).1 = D at *
   go_wp2_with fail
   refine (vN HV.out).mono ?_
   rintro e w4 ⟨rfl,hb4⟩
   have HV4:=hid (HV.out.below hb4)
   have RB4:=hid (RB3.out.below hb4)
   have HZ4:Hid (z2 <= w4.heap.size):=hid (Nat.le_trans HZ3.out hb4.size)
   have HBZ4:Hid (w.heap.size <= w4.heap.size):=hid (Nat.le_trans HBZ3.out hb4.size)
   have B4:Hid (Below w.heap.size w w4):=hid (B3.out.trans (hb4.mono B3.out.size))
   clear hb4 HV B3 RB3 HZ3 HBZ3
   dsimp only
   go_wp2_with fail
   generalize hw5:World.alloc (World.alloc w4 _) _ = w5
   have A5:Hid (Below w4.heap.size w4 w5):=hid (by subst hw5;exact ((Below.refl _ _).alloc (Nat.le_refl _) _).alloc (by simp) _)
   have S5:Hid (SC w5 w4.heap.size V.t V.v):=hid (by subst hw5;exact (SC.box w4 V.t V.v).below ((Below.refl _ _).alloc (Nat.le_refl _) _))
   have Q5:Hid (jF w5 (w4.heap.size + 1) aGr):=hid (by
    subst hw5
    have h:=jF.box (w4.alloc (.cells #[.int .u64 V.t,.int .i64 V.v] 97)) aGr
    have e:(w4.alloc (.cells #[.int .u64 V.t,.int .i64 V.v] 97)).heap.size = w4.heap.size + 1:=by simp
    rw [e] at h
    exact h)
   have N5':Hid (eG w5 w4.heap.size /\ eG w5 (w4.heap.size + 1)):=hid (by
    subst hw5
    have a:eG (w4.alloc (.cells #[.int .u64 V.t,.int .i64 V.v] 97)) w4.heap.size:=eG.alloc (by intro x hx;simp at hx)
    have e:(w4.alloc (.cells #[.int .u64 V.t,.int .i64 V.v] 97)).heap.size = w4.heap.size + 1:=by simp
    refine ⟨eG.below a ((Below.refl _ _).alloc (Nat.le_refl _) _) (by omega),?_⟩
    rw [<- e]
    exact eG.alloc (by intro x hx;simp at hx))
   have OLT:Hid (∀ k,gH b ev fv k -> k < w4.heap.size):=hid fun k hk=>HV4.out.jV hk
   have HV5:=hid (HV4.out.below A5.out)
   have RB5:=hid (RB4.out.below A5.out)
   have B5:Hid (Below w.heap.size w w5):=hid (B4.out.trans (A5.out.mono B4.out.size))
   clear hw5 A5 HV4 B4 RB4
   generalize w4.heap.size = stB at *
   obtain ⟨zj,q0,n1,n2,n3,n4,n5,n6⟩:=qO VI.out
   have N1:=hid n1
   have N4:=hid n4
   have N5:=hid n5
   have N6:=hid n6
   have NS:=hid n2
   have w1:=n3
   clear n1 n2 n3 n4 n5 n6
   refine (zX HV5.out).mono ?_
   rintro e w6 ⟨am,nm,cm,ad,nd,cd,rfl,ho6,hb6⟩
   have O6:=hid ho6
   have HV6:=hid (HV5.out.below hb6)
   have RB6:=hid (RB5.out.below hb6)
   have N6':Hid (eG w6 stB /\ eG w6 (stB + 1)):=hid ⟨eG.below N5'.out.1 hb6 (by have:=Q5.out.lt;omega),eG.below N5'.out.2 hb6 Q5.out.lt⟩
   have S6:=hid (S5.out.below hb6)
   have Q6:=hid (Q5.out.below hb6)
   have SQ:Hid (stB + 1 < w5.heap.size /\ w5.heap.size <= w6.heap.size):=hid ⟨Q5.out.lt,hb6.size⟩
   have B6:Hid (Below w.heap.size w w6):=hid (B5.out.trans (hb6.mono B5.out.size))
   clear ho6 hb6 HV5 S5 Q5 B5 RB5 N5'
   dsimp only
   go_wp2_with fail
   generalize hw7:World.alloc w6 _ = w7
   have A7:Hid (Below w6.heap.size w6 w7):=hid (by subst hw7;exact (Below.refl _ _).alloc (Nat.le_refl _) _)
   have X7:Hid (bX w7 w6.heap.size V.s.i V.s.t (.slice am nm cm) (.slice ad nd cd)):=hid (by subst hw7;exact bX.box w6 _ _ _ _)
   have O7:Hid (iH w7 w5.heap.size (.slice am nm cm) (.slice ad nd cd) V.s):=hid (O6.out.kept (Kept.aJ A7.out (S:=fun _=>False) fun k h1 h2=>by omega) (fun _ _ h=>h) (fun _ _ h=>h))
   have OL:Hid ((∀ k,(Value.slice am nm cm).ownBlock = some k -> w5.heap.size <= k /\ k < w6.heap.size) /\ ∀ k,(Value.slice ad nd cd).ownBlock = some k -> w5.heap.size <= k /\ k < w6.heap.size):=hid ⟨fun k hk=>O6.out.m.lt k hk,fun k hk=>O6.out.d.lt k hk⟩
   have HV7:=hid (HV6.out.below A7.out)
   have RB7:=hid (RB6.out.below A7.out)
   have N7:Hid ((eG w7 stB /\ eG w7 (stB + 1)) /\ eG w7 w6.heap.size):=hid ⟨⟨eG.below N6'.out.1 A7.out (by have:=Q6.out.lt;omega),eG.below N6'.out.2 A7.out Q6.out.lt⟩,by subst hw7;exact eG.alloc (by intro x hx;simp at hx)⟩
   have S7:=hid (S6.out.below A7.out)
   have Q7:=hid (Q6.out.below A7.out)
   have B7:Hid (Below w.heap.size w w7):=hid (B6.out.trans (A7.out.mono B6.out.size))
   clear hw7 A7 O6 HV6 S6 Q6 B6 RB6 N6'
   generalize w6.heap.size = snB at *
   generalize w5.heap.size = z5 at *
   refine (sO HV7.out rfl).mono ?_
   rintro e w8 ⟨rfl,hb8⟩
   have HV8:=hid (HV7.out.below hb8)
   have B8:Hid (Below w7.heap.size w7 w8):=hid hb8
   clear hb8
   go_wp2_with fail
   refine (vM HV8.out N4.out N5.out NS.out).mono ?_
   rintro e w9 ⟨aa,ac,al,rfl,ho9,he9,hd9,hn9,hb9⟩
   have B79:Hid (Below w7.heap.size w7 w9):=hid (B8.out.trans (hb9.mono B8.out.size))
   have HV9:=hid (HV8.out.below hb9)
   have RB9:=hid (RB7.out.below B79.out)
   have B9:Hid (Below w.heap.size w w9):=hid (B7.out.trans (B79.out.mono B7.out.size))
   have K9:Hid (KS w9 (gH b ev fv) stB snB (stB + 1) V.t V.v V.s (.slice aa q0 ac) al aGr):=hid (by
    have hq:=SQ.out
    have hx:=X7.out.lt
    have h87:=B8.out.size
    have hM:∀ k,(z5 <= k /\ k < snB) \/ w8.heap.size <= k -> ¬ NM (gH b ev fv) stB snB (stB + 1) k:=by
     rintro k hk (h | h | h | h)
     ·have:=OLT.out k h;omega
     ·omega
     ·omega
     ·omega
    exact ⟨⟨by omega,by omega,by omega⟩,⟨fun e=>by have:=OLT.out _ e;omega,fun e=>by have:=OLT.out _ e;omega,fun e=>by have:=OLT.out _ e;omega⟩,⟨eG.below N7.out.1.1 B79.out S7.out.lt,eG.below N7.out.2 B79.out X7.out.lt,eG.below N7.out.1.2 B79.out Q7.out.lt⟩,S7.out.below B79.out,
     ⟨am,nm,cm,ad,nd,cd,z5,X7.out.below B79.out,O7.out.kept (Kept.aJ B79.out (S:=fun _=>False) fun k h1 h2=>by omega) (fun _ _ h=>h) (fun _ _ h=>h),fun k hk=>hM k (.inl (OL.out.1 k hk)),fun k hk=>hM k (.inl (OL.out.2 k hk))⟩,
     Q7.out.below B79.out,ho9,fun k hk=>hM k (.inr (hn9 k hk)),fun p hp=>⟨(hd9 p hp).1,(hd9 p hp).2.1,fun _ k hk=>hM k (.inr (Nat.le_of_not_lt ((hd9 p hp).2.2 k hk)))⟩⟩)
   have EQ9:=hid he9
   have AO9:Hid (∀ k,(Value.slice aa q0 ac).ownBlock = some k -> w.heap.size <= k):=hid fun k hk=>Nat.le_trans (by have h1:=B7.out.size;have h2:=B8.out.size;omega) (hn9 k hk)
   have HLO:Hid (w.heap.size <= stB /\ w.heap.size <= snB):=hid (by have:=HBZ4.out;have:=SQ.out;omega)
   have HSN:Hid (stB < w9.heap.size /\ snB < w9.heap.size):=hid (by
    obtain ⟨_,_,_,_,_,_,_,h,_⟩:=K9.out.sn
    exact ⟨K9.out.st.lt,h.lt⟩)
   have HAV:=HV9.out.aKy RB9.out (x:=stB) (y:=snB) HZ4.out (by have:=HZ4.out;have:=SQ.out;omega) HSN.out.1 HSN.out.2
   obtain ⟨b',e1,e2,e3,e4,e5,e6,hv'⟩:=HAV
   have HX:=hid e6
   have HVN:=hid hv'
   have GN:Hid (∀ k,gH b' ev fv k -> w.heap.size <= k):=hid (by rw [e5];exact GE.out)
   have KN:Hid (KS w9 (gH b' ev fv) stB snB (stB + 1) V.t V.v V.s (.slice aa q0 ac) al aGr):=hid (by rw [e5];exact K9.out)
   rw [<- e1,<- e2]
   clear ho9 he9 hd9 hn9 hb9 B8 B79 HV8 HV7 S7 Q7 X7 O7 OL SQ OLT w1 NS N1 N4 N5 N6 B7 N7 RB7 RB9 HZ4 HBZ4 HSN K9 GE HV9 e1 e2 e3 e4 e5 e6 hv'
   clear b
   rename VB=>b
   obtain ⟨laB,hlaB⟩:∃ x,stB + 1 = x:=⟨_,rfl⟩
   rw [hlaB] at KN ⊢
   have HLA:Hid (w.heap.size <= laB):=hid (by have:=HLO.out;omega)
   clear hlaB
   go_upto_block 0 with fail
   go_cut [14] (fun av wz=>aKq w wz b.db b.mb b.tb stB snB laB av)
   case first =>
    go_wp2_with fail
    go_loopg [14,65] n (fun g av i wr=>∃ (j:Nat) (D:aA) (V:cB) (ev fv:Value) (el al:bE) (a':Option Addr) (n' c':Nat),av = .slice a' n' c' /\ i = .int .i64 j /\ j <= n /\ g = n - j /\ D.steps <= 1000 * j + 1000 /\ gO D V /\ aV wr b ev fv el D V /\ KS wr (gH b ev fv) stB snB laB V.t V.v V.s av al aGr /\ al.map (·.1) = bU V /\ (∀ k,av.ownBlock = some k -> w.heap.size <= k) /\ (∀ k,gH b ev fv k -> w.heap.size <= k) /\ Below w.heap.size w wr)
    case atStart=>exact ⟨0,D,V,ev,fv,_,al,aa,q0,ac,rfl,rfl,by omega,rfl,by have:=SZ.out;show D.steps <= 1000 * (0:Int) + 1000;omega,VI.out,HVN.out,KN.out,EQ9.out,AO9.out,GN.out,B9.out⟩
    case round =>
     clear KN VI SZ HVN GN B9 EQ9 AO9
     obtain ⟨j,D,V,ev,fv,el,al,a',n',c',rfl,rfl,hj,rfl,hst,hvi,hv,hks,heq,hao,hge,hb⟩:=hrel
     have SZ:=hid hst
     have VI:=hid hvi
     have HV:=hid hv
     have KR:=hid hks
     have EQR:=hid heq
     have HAO:=hid hao
     have GE:=hid hge
     have BR:=hid hb
     clear hst hvi hv hks heq hao hge hb
     by_cases hlt:j < n
     ·obtain ⟨r,hr,hm⟩:=aDX (l:=rs) (j:=j) (by rw [HN.out];exact hlt)
      obtain ⟨rb,ro,rfl,hbl,hc⟩:=(HL.out.below BR.out).at hr
      have hok:=HL.out.2.1 r hm
      obtain ⟨ml,xms,xd,hml,hfw,_,hxs⟩:=aGl HC.out hm hok
      obtain ⟨rk,rn,ra,rlv,rl,rst,rsv,ri,rt,am,nm,cm,ad,nd,cd,rtv,rts⟩:=r
      obtain ⟨ea,ec,hev,_⟩:=hml.1.shape
      obtain ⟨ta',tc',htv,_⟩:=hok.ts.1.shape
      simp only at hev htv
      subst hev htv
      obtain ⟨tn',htn⟩:∃ tn',(rts.map tX).length = tn':=⟨_,rfl⟩
      obtain ⟨en,hen⟩:∃ en,(aL ml).length = en:=⟨_,rfl⟩
      rw [htn] at hc hok
      rw [hen] at hc hml hok
      have HOK:=hid hok
      have HML:=hid hml
      have HFW:=hid hfw
      have HXS:=hid hxs
      have HJN:=hid hlt
      obtain ⟨x0,x1,x2,x3,x4,x5,x6,x7,x8,x9,x10⟩:=hc
      simp only at x0 x1 x2 x3 x4 x5 x6 x7 x8 x9 x10
      clear hr hm hok hml hfw hxs htn hen
      go_upto_region 13 with fail
      generalize hwx:World.alloc wr _ = wx
      have BX:Hid (Below wr.heap.size wr wx):=hid (by subst hwx;exact (Below.refl _ _).alloc (Nat.le_refl _) _)
      have TX:Hid (jF wx wr.heap.size ⟨rk,rn,ra,.slice ea en ec,rl,rst,rsv,ri,rt,am,nm,cm,ad,nd,cd,.slice ta' tn' tc',rts⟩):=hid (by subst hwx;exact jF.box wr ⟨rk,rn,ra,.slice ea en ec,rl,rst,rsv,ri,rt,am,nm,cm,ad,nd,cd,.slice ta' tn' tc',rts⟩)
      have OLT:Hid (∀ k,gH b ev fv k -> k < wr.heap.size):=hid fun k hk=>HV.out.jV hk
      clear hwx x0 x1 x2 x3 x4 x5 x6 x7 x8 x9 x10 hbl hlt hj
      obtain ⟨z0,hz0⟩:∃ z0,wr.heap.size = z0:=⟨_,rfl⟩
      have HZ0:=hid hz0
      rw [hz0] at BX TX OLT ⊢
      clear hz0
      obtain ⟨cb,hcb⟩:∃ cb,decide (3 < rk \/ rk < 0) = cb:=⟨_,rfl⟩
      have HCB:=hid hcb
      clear hcb
      go_cut [76] (fun c wz=>wx = wz /\ c = .bool cb)
      case first =>
       have x0:=TX.out.c.c0
       simp only at x0
       by_cases h1:3 < rk
       ·have b1:decide (3 < rk) = true:=decide_eq_true h1
        have hc1:cb = true:=by rw [<- HCB.out];exact decide_eq_true (.inl h1)
        clear h1
        go_wp2_with fail
        go_meet
        exact ⟨rfl,by rw [hc1]⟩
       ·have b1:decide (3 < rk) = false:=decide_eq_false h1
        by_cases h2:rk < 0
        ·have b2:decide (rk < 0) = true:=decide_eq_true h2
         have hc1:cb = true:=by rw [<- HCB.out];exact decide_eq_true (.inr h2)
         clear h1 h2
         go_wp2_with fail
         go_meet
         exact ⟨rfl,by rw [hc1]⟩
        ·have b2:decide (rk < 0) = false:=decide_eq_false h2
         have hc1:cb = false:=by rw [<- HCB.out];exact decide_eq_false (fun q=>q.elim h1 h2)
         clear h1 h2
         go_wp2_with fail
         go_meet
         exact ⟨rfl,by rw [hc1]⟩
      case rest =>
       obtain ⟨rfl,rfl⟩:=hcut
       go_upto_if 76 with fail
       go_cut [] (fun wz=>∃ kk:Int,(0 <= kk /\ kk <= 3) /\ jF wz z0 ⟨kk,rn,ra,.slice ea en ec,rl,rst,rsv,ri,rt,am,nm,cm,ad,nd,cd,.slice ta' tn' tc',rts⟩ /\ Below z0 wr wz)
       case first =>
        have x0:=TX.out.c.c0
        have f0:=TX.out.f 0 (by decide)
        simp only at x0
        cases cb with
        | true =>
         go_wp2_with fail
         go_meet
         exact ⟨0,by decide,TX.out.aLa 0,BX.out.trans ((Kept.setCell wx ⟨z0,0,none⟩ _).below (by have:=BX.out.size;have:=HZ0.out;omega) fun k e=>by dsimp only at e;omega)⟩
        | false =>
         have hn:¬ (3 < rk \/ rk < 0):=of_decide_eq_false HCB.out
         have HNN:Hid (0 <= rk /\ rk <= 3):=hid (by omega)
         clear hn
         go_wp2_with fail
         go_meet
         exact ⟨rk,HNN.out,TX.out,BX.out⟩
       case rest =>
        obtain ⟨kk,hkk,htb,hbz⟩:=hcut
        have HKK:=hid hkk
        have TZ:=hid htb
        have BZ:Hid (Below wr.heap.size wr wc):=hid (HZ0.out.symm ▸ hbz)
        clear hkk htb hbz BX TX
        have HVZ:=hid (HV.out.below BZ.out)
        have KZ:=hid (KR.out.below BZ.out)
        have BW:Hid (Below w.heap.size w wc):=hid (BR.out.trans (BZ.out.mono BR.out.size))
        have HNZ:Hid (¬ gH b ev fv z0):=hid fun e=>by have:=OLT.out _ e;omega
        have HAG:Hid (qW wc (jR b.lb b.db b.mb b.tb ev fv) (.slice ea en ec) ml):=hid (HML.out.arg BW.out fun k e=>GE.out k (.inr (.inr (.inr e))))
        have HXK:Hid (∀ w',Kept wc w' (gH b ev fv) -> cG w' (.agg #[.int .u64 ri,.int .u64 rt,.slice am nm cm,.slice ad nd cd]) ⟨(ri:Int),rt,xms,xd⟩):=hid fun w' hk=>HXS.out.below (BW.out.trans (hk.below BW.out.size GE.out))
        have HST:Hid (D.steps + 300 <= 1000000000):=hid (by have:=SZ.out;have:=HJN.out;have:=HFEW.out;omega)
        have HUP:=hid (aKd VI.out HST.out kk ra (ml.map (·.1)) HOK.out.st.1 rsv ⟨(ri:Int),rt,xms,xd⟩)
        have HDN:=hid (aCA VI.out HST.out HKK.out ra (ml.map (·.1)) HOK.out.st.1 rsv ⟨(ri:Int),rt,xms,xd⟩)
        have HTC:=hid (aKR HVZ.out VI.out HST.out kk rn ra ea en ec rst rsv ri rt am ad nm cm nd cd (.slice ta' tn' tc') xms xd HOK.out.a HOK.out.st.1 HOK.out.i HAG.out HFW.out HXK.out)
        obtain ⟨x0,x1,x2,x3,x4,x5,x6,x7,x8,x9,x10⟩:=TZ.out.c
        simp only [Nat.zero_add] at x0 x1 x2 x3 x4 x5 x6 x7 x8 x9 x10
        clear HV KR BZ HAG HXK OLT
        go_wp2_with fail
        refine HTC.out.mono ?_
        rintro e w4 ⟨rfl,ev4,fv4,el4,hv4,hs4⟩
        have HV4:=hid hv4
        have HOW:Hid (∀ k,gH b ev4 fv4 k -> gH b ev fv k \/ wc.heap.size <= k):=hid fun k hk=>hs4.own hk
        have K4:=hid (KZ.out.step hs4.1 fun k h1 h2 h3=>(HOW.out k h3).elim h2 fun q=>by omega)
        have T4:=hid (TZ.out.kept hs4.1 HNZ.out)
        have B4:Hid (Below w.heap.size w w4):=hid (BW.out.trans (hs4.1.below BW.out.size GE.out))
        have GE4:Hid (∀ k,gH b ev4 fv4 k -> w.heap.size <= k):=hid fun k hk=>(HOW.out k hk).elim (GE.out k) fun q=>by have:=BW.out.size;omega
        clear hv4 hs4 HTC HVZ KZ TZ GE HOW HNZ x0 x1 x2 x3 x4 x5 x6 x7 x8 x9 x10
        have HVI:=VI.out
        generalize hr4:opV kk ra (ml.map (·.1)) rst rsv ⟨(ri:Int),rt,xms,xd⟩ D V = r4 at *
        clear hr4
        obtain ⟨D4,V4,n4⟩:=r4
        simp only at HV4 HUP HDN
        obtain ⟨dn,hdn⟩:∃ dn,D4.down = dn:=⟨_,rfl⟩
        have HD4:=hid hdn
        have WD:=aFU b.db b.mb b.tb D4 w4 HV4.out.log.dN
        rw [hdn] at WD
        have HWD:=hid WD
        clear WD hdn
        go_wp2_with fail
        refine HWD.out.mono ?_
        rintro e w5 ⟨rfl,rfl⟩
        cases dn with
        | true =>
         obtain ⟨x0,x1,x2,x3,x4,x5,x6,x7,x8,x9,x10⟩:=T4.out.c
         obtain ⟨y0,y1,y2,y3,y4,y5,y6,y7,y8,y9,y10⟩:=K4.out.la.c
         simp only [Nat.zero_add] at x0 x1 x2 x3 x4 x5 x6 x7 x8 x9 x10 y0 y1 y2 y3 y4 y5 y6 y7 y8 y9 y10
         have hf:=K4.out.la.f
         have f0:=hf 0 (by decide)
         have f1:=hf 1 (by decide)
         have f2:=hf 2 (by decide)
         have f3:=hf 3 (by decide)
         have f4:=hf 4 (by decide)
         have f5:=hf 5 (by decide)
         have f6:=hf 6 (by decide)
         have f7:=hf 7 (by decide)
         have f8:=hf 8 (by decide)
         have f9:=hf 9 (by decide)
         have f10:=hf 10 (by decide)
         clear hf
         go_wp2_with fail
         generalize hwF:World.setCell _ _ _ = wF
         have KF:Hid (Kept w4 wF (fun k=>k = laB)):=hid (by subst hwF;exact jF.aJf w4 laB ⟨kk,rn,ra,.slice ea en ec,rl,rst,rsv,ri,rt,am,nm,cm,ad,nd,cd,.slice ta' tn' tc',rts⟩)
         have TF:Hid (jF wF laB ⟨kk,rn,ra,.slice ea en ec,rl,rst,rsv,ri,rt,am,nm,cm,ad,nd,cd,.slice ta' tn' tc',rts⟩):=hid (by subst hwF;exact jF.put (r:=⟨kk,rn,ra,.slice ea en ec,rl,rst,rsv,ri,rt,am,nm,cm,ad,nd,cd,.slice ta' tn' tc',rts⟩) K4.out.la)
         have NF:Hid (eG wF laB):=hid (by subst hwF;exact jF.n8 (r:=⟨kk,rn,ra,.slice ea en ec,rl,rst,rsv,ri,rt,am,nm,cm,ad,nd,cd,.slice ta' tn' tc',rts⟩) K4.out.la K4.out.n8.2.2 (fun x e=>by cases e) (fun x e=>by cases e))
         clear hwF x0 x1 x2 x3 x4 x5 x6 x7 x8 x9 x10 y0 y1 y2 y3 y4 y5 y6 y7 y8 y9 y10 f0 f1 f2 f3 f4 f5 f6 f7 f8 f9 f10
         go_meet
         exact ⟨D,D4,V,al,ml,a',n',c',⟨kk,rn,ra,.slice ea en ec,rl,rst,rsv,ri,rt,am,nm,cm,ad,nd,cd,.slice ta' tn' tc',rts⟩,xms,xd,rfl,HV4.out.log.dN.dT KF.out (fun k h1 h2=>K4.out.nst.2.2 (h2 ▸ .inr (.inr (.inr (.inr (.inl h1)))))) (fun k e j y hy=>by subst e;exact K4.out.n8.2.2 j y hy),VI.out,
          (K4.out.last KF.out TF.out NF.out).step (Kept.refl _ _) (fun k _ h1 h2=>h1 (.inr (.inr (.inr (.inr (.inl h2)))))),EQR.out,HAO.out,fun k e=>GE4.out k (.inr (.inr (.inr (.inr (.inl e))))),B4.out.trans (KF.out.below B4.out.size fun k e=>by have:=HLA.out;omega),
          by have:=HUP.out.2;have:=SZ.out;have:=HJN.out;have:=HFEW.out;omega,⟨by have:=HKK.out;show (-1:Int) <= kk;omega,HKK.out.2⟩,HML.out,HFW.out.many,HXS.out,HOK.out.a,HOK.out.i,HDN.out HD4.out⟩
        | false =>
         have VI4:Hid (gO D4 V4):=hid (HUP.out.1 HD4.out)
         have HS4:Hid (D4.steps <= D.steps + 300):=hid HUP.out.2
         clear HUP HDN HVI VI T4 HML HFW HXS HOK HKK HST EQR HD4 HWD
         go_wp2_with fail
         refine (vN HV4.out).mono ?_
         rintro e w5 ⟨rfl,hb5⟩
         have HV5:=hid (HV4.out.below hb5)
         have K5:=hid (K4.out.below hb5)
         have B5:Hid (Below w.heap.size w w5):=hid (B4.out.trans (hb5.mono B4.out.size))
         clear hb5 HV4 K4 B4
         obtain ⟨q0,q1,g0,g1⟩:=K5.out.st
         dsimp only
         go_wp2_with fail
         generalize hwA:World.setCell _ _ _ = wA
         have KA:Hid (Kept w5 wA (fun k=>k = stB)):=hid (by subst hwA;exact Kept.kV _ _ _ _)
         have KSA:=hid (K5.out.aKM KA.out (by subst hwA;exact K5.out.st.set V4.t V4.v) (by subst hwA;exact SC.n8 K5.out.st K5.out.n8.1 V4.t V4.v))
         have HVA:=hid (HV5.out.aside KA.out K5.out.nst.1 HX.out.1 K5.out.n8.1)
         have BA:Hid (Below w.heap.size w wA):=hid (B5.out.trans (KA.out.below B5.out.size fun k e=>by have:=HLO.out;omega))
         clear hwA q0 q1 g0 g1 KA K5 HV5 B5
         refine (zX HVA.out).mono ?_
         rintro e w6 ⟨am',nm',cm',ad',nd',cd',rfl,ho6,hb6⟩
         have O6:=hid ho6
         have HV6:=hid (HVA.out.below hb6)
         have K6:=hid (KSA.out.below hb6)
         have B6:Hid (Below w.heap.size w w6):=hid (BA.out.trans (hb6.mono BA.out.size))
         have HNM:Hid (∀ k,wA.heap.size <= k -> ¬ NM (gH b ev4 fv4) stB snB laB k):=hid (by
          have h1:=KSA.out.st.lt
          have h3:=KSA.out.la.lt
          obtain ⟨_,_,_,_,_,_,_,h2,_⟩:=KSA.out.sn
          have h2:=h2.lt
          rintro k hk (h | h | h | h)
          ·have:=HVA.out.jV h;omega
          ·omega
          ·omega
          ·omega)
         have HSZ:Hid (wA.heap.size <= w6.heap.size):=hid hb6.size
         clear ho6 hb6 HVA KSA BA
         obtain ⟨sam,snm,scm,sad,snd,scd,SB,s1,s2,s3,s4⟩:=K6.out.sn
         have S6:=hid s1
         obtain ⟨q0,q1,q2,q3,g0,g1,g2,g3⟩:=s1
         clear s2 s3 s4
         dsimp only
         go_wp2_with fail
         generalize hwB:World.setCell _ _ _ = wB
         have KB:Hid (Kept w6 wB (fun k=>k = snB)):=hid (by subst hwB;exact Kept.iE w6 snB _ _ _ _)
         have RB:Hid (bX wB snB V4.s.i V4.s.t (.slice am' nm' cm') (.slice ad' nd' cd')):=hid (by subst hwB;exact S6.out.iE _ _ _ _)
         have NB:Hid (eG wB snB):=hid (by subst hwB;exact S6.out.n8 K6.out.n8.2.1 _ _ _ _ _ _ _ _)
         have OB:Hid (iH wB wA.heap.size (.slice am' nm' cm') (.slice ad' nd' cd') V4.s):=hid (O6.out.kept KB.out (fun k hk e=>HNM.out k (O6.out.m.lt k hk).1 (.inr (.inr (.inl e)))) (fun k hk e=>HNM.out k (O6.out.d.lt k hk).1 (.inr (.inr (.inl e)))))
         have KSB:=hid (K6.out.aKL KB.out RB.out OB.out (fun k hk=>HNM.out k (O6.out.m.lt k hk).1) (fun k hk=>HNM.out k (O6.out.d.lt k hk).1) NB.out)
         have HVB:=hid (HV6.out.aside KB.out K6.out.nst.2.1 HX.out.2 K6.out.n8.2.1)
         have BB:Hid (Below w.heap.size w wB):=hid (B6.out.trans (KB.out.below B6.out.size fun k e=>by have:=HLO.out;omega))
         have HNB:Hid (∀ k,wB.heap.size <= k -> ¬ NM (gH b ev4 fv4) stB snB laB k):=hid fun k hk=>HNM.out k (by have:=KB.out.size;have:=HSZ.out;omega)
         clear hwB q0 q1 q2 q3 g0 g1 g2 g3 KB K6 HV6 B6 S6 RB NB OB O6 HNM
         obtain ⟨zj',q',n1,n2,n3,n4,n5,n6⟩:=qO VI4.out
         have N4:=hid n4
         have N5:=hid n5
         have NS:=hid n2
         have w1:=n3
         clear n1 n2 n3 n4 n5 n6
         refine (sO HVB.out rfl).mono ?_
         rintro e w8 ⟨rfl,hb8⟩
         have HV8:=hid (HVB.out.below hb8)
         have B8:Hid (Below wB.heap.size wB w8):=hid hb8
         clear hb8
         go_wp2_with fail
         refine (vM HV8.out N4.out N5.out NS.out).mono ?_
         rintro e w9 ⟨aa',ac',al',rfl,ho9,he9,hd9,hn9,hb9⟩
         have B79:Hid (Below wB.heap.size wB w9):=hid (B8.out.trans (hb9.mono B8.out.size))
         have HV9:=hid (HV8.out.below hb9)
         have B9:Hid (Below w.heap.size w w9):=hid (BB.out.trans (B79.out.mono BB.out.size))
         have K9:=hid ((KSB.out.below B79.out).aKK ho9 (fun k hk=>HNB.out k (Nat.le_trans B8.out.size (hn9 k hk))) fun p hp=>⟨(hd9 p hp).1,(hd9 p hp).2.1,fun _ k hk=>HNB.out k (Nat.le_trans B8.out.size (Nat.le_of_not_lt ((hd9 p hp).2.2 k hk)))⟩)
         have EQ9:=hid he9
         have AO9:Hid (∀ k,(Value.slice aa' q' ac').ownBlock = some k -> w.heap.size <= k):=hid fun k hk=>Nat.le_trans (by have h1:=BB.out.size;have h2:=B8.out.size;omega) (hn9 k hk)
         clear ho9 he9 hd9 hn9 hb9 B8 B79 HV8 HVB KSB HNB BB w1 NS N4 N5
         have hjn:(j:Int) < 60:=by have:=HJN.out;have:=HFEW.out;omega
         go_wp2_with fail
         go_roundg (n - (j + 1))
         case measure=>have:=HJN.out;omega
         case rel=>exact ⟨j + 1,D4,V4,ev4,fv4,el4,al',aa',q',ac',rfl,by first | rfl | go_num,by have:=HJN.out;omega,rfl,by have:=HS4.out;have:=SZ.out;omega,VI4.out,HV9.out,K9.out,EQ9.out,AO9.out,GE4.out,B9.out⟩
     ·obtain rfl:j = n:=by omega
      clear hlt hj
      go_wp2_with fail
      go_meet
      exact ⟨D,D,V,al,[],a',n',c',aGr,[],[],rfl,HV.out.log.dN,VI.out,KR.out.step (Kept.refl _ _) (fun k _ h1 h2=>h1 (.inr (.inr (.inr (.inr (.inl h2)))))),EQR.out,HAO.out,fun k e=>GE.out k (.inr (.inr (.inr (.inr (.inl e))))),BR.out,
       by have:=SZ.out;have:=HFEW.out;omega,⟨by decide,by decide⟩,aDT w,by decide,aC6 w,by decide,by decide,_,_,_,_,aCB VI.out⟩
   case rest =>
    apply_assumption
    exact aDf HTT hcut
end Go.Proofs.YtjdglpcnkiioeaaGreat
