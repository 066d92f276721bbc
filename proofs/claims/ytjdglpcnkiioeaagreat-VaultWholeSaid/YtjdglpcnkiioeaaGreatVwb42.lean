/- Several texts in one: Vtw, VwhH for vwhole_law_holds. No conditions but those stated. -/
import Derived.Deep.LoopGhost
import Derived.Deep.CutBlock
import Derived.Deep.DeepCutAuto
import Derived.Test.YtjdglpcnkiioeaaGreatVwb41
set_option maxHeartbeats 16000000
namespace Go.Proofs.YtjdglpcnkiioeaaGreat
open Go.Lib (hid)
open Go.RowKit Go.Maps Go.Proofs.Own Go.Shelf

theorem jP {w:World} {b:VB} {ev fv:Value} {el:bF} {D:aA} {V:cC} (h:aX w b ev fv el D V) {z:Int} (hl:V.L.last <= H59) (hz:(V.L.last:Int) = z):Calls Tryz.prog 45 #[.pointer (some ⟨b.vb,0,none⟩)] w fun e w'=>e = .returned (.int .u64 z) /\ Below w.heap.size w w':=by
  subst hz
  exact aCP h (by unfold H59 at hl;omega)
theorem dM {w:World} {b:VB} {ev fv:Value} {el:bF} {D:aA} {V:cC} (h:aX w b ev fv el D V) {z:Int} (hz:V.s.i = z):Calls Tryz.prog 50 #[.pointer (some ⟨b.vb,0,none⟩)] w fun e w'=>e = .returned (.int .u64 z) /\ Below w.heap.size w w':=by
  subst hz
  exact tL h
theorem pY {w:World} {b:VB} {ev fv:Value} {el:bF} {D:aA} {V:cC} (h:aX w b ev fv el D V) {z:Int} (hl:V.L.b < H59) (hz:(V.L.b:Int) + 1 = z):Calls Tryz.prog 49 #[.pointer (some ⟨b.vb,0,none⟩)] w fun e w'=>e = .returned (.int .u64 z) /\ Below w.heap.size w w':=by
  subst hz
  exact aGs h (by unfold H59 at hl;omega)
theorem rS {w:World} {b:VB} {ev fv:Value} {el:bF} {D:aA} {V:cC} (h:aX w b ev fv el D V) {z:Int} {q:Nat} (hl:V.L.last <= H59) (hn:V.L.es.length <= 131072) (hz:∃ si:Nat,V.s.i = si /\ z = ((si + 1:Nat):Int) /\ V.L.b <= si /\ si + q = V.L.last) :
    Calls Tryz.prog 52 #[.pointer (some ⟨b.vb,0,none⟩),.int .u64 z,.int .i64 1048576] w fun e w'=>∃ a c,e = .returned (.slice a q c) /\ Below w.heap.size w w':=by
  obtain ⟨si,h1,rfl,h3,h4⟩:=hz
  refine (aH0 h hl (by omega) (si + 1) (by unfold H59 at hl;omega) 1048576 (by decide)).mono ?_
  rintro e w' ⟨v',l',rfl,ho,hm,_,_,hb⟩
  obtain ⟨a,c,rfl,_⟩:=ho.shape
  have hlen:(aU l').length = q:=by
    rw [aY]
    have:=congrArg List.length hm
    rw [List.length_map] at this
    rw [this]
    unfold aAh
    rw [List.length_take,List.length_drop]
    unfold aK.last at h4
    omega
  rw [hlen]
  exact ⟨a,c,rfl,hb⟩
theorem aGz {w:World} {b:VB} {ev fv:Value} {el:bF} {D:aA} {V:cC} (h:aX w b ev fv el D V) {z t:Int} (hz:V.s.i = z) (ht:V.s.t = t):Calls Tryz.prog 47 #[.pointer (some ⟨b.vb,0,none⟩)] w fun e w'=>∃ am nm cm ad nd cd,e = .returned (.tuple #[.agg #[.int .u64 z,.int .u64 t,.slice am nm cm,.slice ad nd cd],.bool (decide (0 < V.s.i))]) /\ Below w.heap.size w w':=by
  subst hz ht
  refine (wS h).mono ?_
  rintro e w' ⟨i,t,mv,dv,rfl,hs,hb⟩
  obtain ⟨rfl,rfl,⟨am,nm,cm,rfl⟩,⟨ad,nd,cd,rfl⟩⟩:=hs.uS
  exact ⟨am,nm,cm,ad,nd,cd,rfl,hb⟩
theorem aEi {w:World} {b:VB} {ev fv:Value} {el:bF} {D:aA} {V:cC} (h:aX w b ev fv el D V) (hl:V.L.last <= H59) (hn:V.L.es.length <= 131072) {z t:Int} (h0:0 <= V.s.i) (hz:V.s.i = z) (ht:V.s.t = t):Calls Tryz.prog 48 #[.pointer (some ⟨b.vb,0,none⟩),.int .u64 z] w fun e w'=>e = .returned (.tuple #[.int .u64 t,.bool true]) /\ Below w.heap.size w w':=by
  obtain ⟨si,hsi⟩:∃ si:Nat,V.s.i = si:=⟨V.s.i.toNat,by omega⟩
  have hT:tI V si = (t,true):=by unfold tI;rw [if_pos hsi,ht]
  have W:=aCQ h hl (by omega) si
  rw [hT,<- hsi,hz] at W
  exact W

set_option maxRecDepth 20000 in
theorem aD5 (w:World) (room:Int) (v:Value) (rs:List TOp) (hl:oY w v rs) :
    Calls Tryz.prog 8 #[.int .i64 room,v] w fun e w'=>e = .returned (.bool true) /\ Below w.heap.size w w':=by
  obtain ⟨la,lc,rfl,_⟩:=hl.1.shape
  rw [List.length_map] at hl ⊢
  have HL:=hid hl
  obtain ⟨n,hn⟩:∃ n,rs.length = n:=⟨_,rfl⟩
  have HN:=hid hn
  rw [hn] at HL ⊢
  clear hl hn
  by_cases h0:room < 0
  . have z0:decide (room < 0) = true:=decide_eq_true h0
    clear h0
    go_enter Tryz.func8,Tryz.ntmps8
    go_wp2_with fail
    refine (oI _).mono ?_
    rintro e w2 ⟨rfl,hb2⟩
    have B2:Hid (Below w.heap.size w w2):=hid (hb2)
    clear hb2
    go_wp2_with fail
    go_ret
    exact ⟨rfl,B2.out⟩
  . have z0:decide (room < 0) = false:=decide_eq_false h0
    by_cases h1:1048576 < room
    . have z1:decide (1048576 < room) = true:=decide_eq_true h1
      clear h0 h1
      go_enter Tryz.func8,Tryz.ntmps8
      go_wp2_with fail
      refine (oI _).mono ?_
      rintro e w2 ⟨rfl,hb2⟩
      have B2:Hid (Below w.heap.size w w2):=hid (hb2)
      clear hb2
      go_wp2_with fail
      go_ret
      exact ⟨rfl,B2.out⟩
    . have z1:decide (1048576 < room) = false:=decide_eq_false h1
      have HRM:Hid (0 <= room /\ room <= 1048576):=hid (by omega)
      clear h0 h1
      cases hc:gA rs with
      | false =>
        have HC:=hid hc
        clear hc
        go_enter Tryz.func8,Tryz.ntmps8
        go_wp2_with fail
        refine (yY _ rs _ HL.out).mono ?_
        rintro e w1 ⟨rfl,hb1⟩
        rw [HC.out]
        have B1:=hid hb1
        clear hb1
        go_wp2_with fail
        refine (oI _).mono ?_
        rintro e w2 ⟨rfl,hb2⟩
        have B2:Hid (Below w.heap.size w w2):=hid (B1.out.trans (hb2.mono B1.out.size))
        clear hb2
        go_wp2_with fail
        go_ret
        exact ⟨rfl,B2.out⟩
      | true =>
        have HC:=hid hc
        have HFEW:Hid (n <= 60):=hid (by have:=aD2 hc;have:=HN.out;omega)
        clear hc
        go_enter Tryz.func8,Tryz.ntmps8
        go_wp2_with fail
        refine (yY _ rs _ HL.out).mono ?_
        rintro e w0 ⟨rfl,hb0⟩
        rw [HC.out]
        have B0:=hid hb0
        clear hb0
        go_wp2_with fail
        refine (aJT room w0 HRM.out.1 HRM.out.2).mono ?_
        rintro e w1 ⟨db,mb,tb,rfl,hd1,hb1,h1,h2,h3⟩
        have D1:Hid (aG w1 db mb tb (eW (cE (aIj room) []))):=hid hd1
        have B1:Hid (Below w.heap.size w w1):=hid (B0.out.trans (hb1.mono B0.out.size))
        have HO3:Hid (∀ k,bA db mb tb k -> w.heap.size <= k):=hid (by have:=B0.out.size;rintro k (rfl | rfl | rfl) <;> omega)
        clear hd1 hb1 h1 h2 h3 z0 z1
        go_wp2_with fail
        refine (wB D1.out (aIk HRM.out.1 HRM.out.2) (by show (0:Int) + 3000 <= _;decide)).mono ?_
        rintro e w2 ⟨D,V,hor,b,ev,fv,el,rfl,e1,e2,e3,hv,hk2,ho⟩
        have VI:=hid hor.inv
        have SZ:Hid (D.steps <= 1000):=hid (by have h:D.steps <= 0 + 600:=hor.steps;omega)
        have HV:=hid hv
        have HGE:Hid (∀ k,iT b ev fv k -> w.heap.size <= k):=hid (fun k hk=>(ho k hk).elim (HO3.out k) (fun e=>by have:=B1.out.size;omega))
        have B2:Hid (Below w.heap.size w w2):=hid (B1.out.trans (hk2.below B1.out.size HO3.out))
        have HE:Hid (b.db = db /\ b.mb = mb /\ b.tb = tb):=hid ⟨e1,e2,e3⟩
        clear hor hv hk2 ho e1 e2 e3 B0 B1 D1 HO3
        go_wp2_with fail
        go_loopg [6,7,41] n (fun g vv ev7 i wr=>∃ (j:Nat) (b:VB) (D:aA) (V:cC) (ev fv:Value) (el:bF),vv = .pointer (some ⟨b.vb,0,none⟩) /\ ev7 = .int .i64 0 /\ i = .int .i64 j /\ j <= n /\ g = n - j /\ D.steps <= 3000 * j + 1000 /\ hE D V /\ aX wr b ev fv el D V /\ (b.db = db /\ b.mb = mb /\ b.tb = tb) /\ (∀ k,iT b ev fv k -> w.heap.size <= k) /\ Below w.heap.size w wr)
        case atStart=>exact ⟨0,b,D,V,ev,fv,el,rfl,rfl,rfl,by omega,rfl,by have:=SZ.out;show D.steps <= 3000 * (0:Int) + 1000;omega,VI.out,HV.out,HE.out,HGE.out,B2.out⟩
        case round =>
          clear VI SZ HV HGE B2 HE
          obtain ⟨j,b,D,V,ev,fv,el,rfl,rfl,rfl,hj,rfl,hst,hvi,hv,hdb,hge,hb⟩:=hrel
          have SZ:=hid hst
          have VI:=hid hvi
          have HV:=hid hv
          have HE:=hid hdb
          have GE:=hid hge
          have BR:=hid hb
          clear hst hvi hv hdb hge hb
          by_cases hlt:j < n
          . obtain ⟨r,hr,hm⟩:=aDp (l:=rs) (j:=j) (by rw [HN.out];exact hlt)
            obtain ⟨rb,ro,rfl,hbl,hc⟩:=(HL.out.below BR.out).at hr
            have hok:=HL.out.2.1 r hm
            obtain ⟨ml,xms,xd,hml,hfw,_,hxs⟩:=aFJ HC.out hm hok
            obtain ⟨rk,rn,ra,rlv,rl,rst,rsv,ri,rt,am,nm,cm,ad,nd,cd,rtv,rts⟩:=r
            obtain ⟨ea,ec,hev,_⟩:=hml.1.shape
            obtain ⟨ta',tc',htv,_⟩:=hok.ts.1.shape
            simp only at hev htv
            subst hev htv
            obtain ⟨tn',htn⟩:∃ tn',(rts.map tG).length = tn':=⟨_,rfl⟩
            obtain ⟨en,hen⟩:∃ en,(aU ml).length = en:=⟨_,rfl⟩
            rw [htn] at hc hok
            rw [hen] at hc hml hok
            have HOK:=hid hok
            have HML:=hid hml
            have HFW:=hid hfw
            have HXS:=hid hxs
            have HJN:=hid hlt
            obtain ⟨x0,x1,x2,x3,x4,x5,x6,x7,x8,x9,x10⟩:=hc
            simp only at x0 x1 x2 x3 x4 x5 x6 x7 x8 x9 x10
            clear hr hm hok hml hfw hxs htn hen
            go_upto_block 2 with fail
            generalize hwx:World.alloc wr _ = wx
            have M0:Hid (MX w wx b wr.heap.size ⟨rk,rn,ra,.slice ea en ec,rl,rst,rsv,ri,rt,am,nm,cm,ad,nd,cd,.slice ta' tn' tc',rts⟩ D V):=hid (by
              have hbel:Below wr.heap.size wr wx:=by subst hwx;exact (Below.refl _ _).alloc (Nat.le_refl _) _
              exact ⟨⟨ev,fv,el,HV.out.below hbel,GE.out,fun e=>by have:=HV.out.lN e;omega⟩,by subst hwx;exact aBI.box wr ⟨rk,rn,ra,.slice ea en ec,rl,rst,rsv,ri,rt,am,nm,cm,ad,nd,cd,.slice ta' tn' tc',rts⟩,BR.out.trans (hbel.mono BR.out.size)⟩)
            clear hwx x0 x1 x2 x3 x4 x5 x6 x7 x8 x9 x10 HV GE BR hbl hlt hj
            generalize wr.heap.size = ob at *
            go_cut [] (fun wz=>∃ D1 V1,MX w wz b ob ⟨rk,rn,ra,.slice ea en ec,rl,rst,rsv,ri,rt,am,nm,cm,ad,nd,cd,.slice ta' tn' tc',rts⟩ D1 V1 /\ aEY D1 V1 (3000 * j + 1400))
            case first =>
              obtain ⟨x0,x1,x2,x3,x4,x5,x6,x7,x8,x9,x10⟩:=M0.out.box
              simp only [Nat.zero_add] at x0 x1 x2 x3 x4 x5 x6 x7 x8 x9 x10
              have HTS:Hid (dU wx (.slice ta' tn' tc') rts):=hid (HOK.out.ts.below M0.out.bel)
              by_cases k4:rk = 4
              . have b4:(rk == 4) = true:=beq_iff_eq.2 k4
                clear k4
                go_wp2_with fail
                refine (xH db mb tb D (.slice ta' tn' tc') rts wx (M0.out.xK HE.out) VI.out.cut.eN HTS.out (aAE HOK.out.ts (M0.out.aI4 HE.out))).mono ?_
                rintro e w4 ⟨rfl,hd4,hk4⟩
                have M4:=hid (M0.out.sK HE.out hd4 hk4)
                have MD:Hid (aEY (cE D rts) V (3000 * j + 1400)):=hid ⟨VI.out.cut.eN.aEs rts,by have:=SZ.out;show D.steps <= _;omega,.inr ⟨rfl,VI.out.cr.aKq (by have:=SZ.out;omega) rts⟩⟩
                clear hd4 hk4
                go_wp2_with fail
                go_meet
                exact ⟨_,_,M4.out,MD.out⟩
              . have b4:(rk == 4) = false:=beq_eq_false_iff_ne.2 k4
                clear k4
                by_cases k5:rk = 5
                . have b5:(rk == 5) = true:=beq_iff_eq.2 k5
                  clear k5
                  go_wp2_with fail
                  refine (aGW db mb tb D rn wx (M0.out.xK HE.out)).mono ?_
                  rintro e w4 ⟨rfl,hd4,hk4⟩
                  have M4:=hid (M0.out.sK HE.out hd4 hk4)
                  have MD:Hid (aEY (aAT D rn).1 V (3000 * j + 1400)):=hid (by have hn:rn <= 9223372036854775807:=HOK.out.n;obtain ⟨a1,a2,a3⟩:=VI.out.arm hn;exact ⟨a1.cut.eN,by rw [a2];have:=SZ.out;omega,.inl ⟨a3,a1⟩⟩)
                  clear hd4 hk4
                  go_wp2_with fail
                  go_meet
                  exact ⟨_,_,M4.out,MD.out⟩
                . have b5:(rk == 5) = false:=beq_eq_false_iff_ne.2 k5
                  clear k5
                  by_cases k6:rk = 6
                  . have b6:(rk == 6) = true:=beq_iff_eq.2 k6
                    clear k6
                    go_wp2_with fail
                    refine (aBZ db mb tb D rn wx (M0.out.xK HE.out)).mono ?_
                    rintro e w4 ⟨rfl,hd4,hk4⟩
                    have M4:=hid (M0.out.sK HE.out hd4 hk4)
                    have MD:Hid (aEY (kS D rn).1 V (3000 * j + 1400)):=hid (by obtain ⟨a1,a2,a3⟩:=VI.out.resize rn;exact ⟨a1.cut.eN,by rw [a2];have:=SZ.out;omega,.inl ⟨a3,a1⟩⟩)
                    clear hd4 hk4
                    go_wp2_with fail
                    go_meet
                    exact ⟨_,_,M4.out,MD.out⟩
                  . have b6:(rk == 6) = false:=beq_eq_false_iff_ne.2 k6
                    clear k6
                    go_wp2_with fail
                    have MD:Hid (aEY (opV rk ra (ml.map (·.1)) rst rsv ⟨(ri:Int),rt,xms,xd⟩ D V).1 (opV rk ra (ml.map (·.1)) rst rsv ⟨(ri:Int),rt,xms,xd⟩ D V).2.1 (3000 * j + 1400)):=hid (aIG VI.out (by have:=SZ.out;omega) (by have:=HJN.out;have:=HFEW.out;omega) rk ra _ HOK.out.st.1 rsv _)
                    refine (aIB M0.out VI.out (by have:=SZ.out;have:=HJN.out;have:=HFEW.out;omega) HOK.out.a HOK.out.st.1 HOK.out.i HML.out HFW.out HXS.out).mono ?_
                    rintro e w4 ⟨rfl,hm4⟩
                    have M4:=hid hm4
                    clear hm4
                    go_wp2_with fail
                    go_meet
                    exact ⟨_,_,M4.out,MD.out⟩
            case rest =>
              clear M0 SZ VI
              obtain ⟨D1,V1,hmx,hmd⟩:=hcut
              have M1:=hid hmx
              have MD:=hid hmd
              clear hmx hmd
              obtain ⟨x0,x1,x2,x3,x4,x5,x6,x7,x8,x9,x10⟩:=M1.out.box
              simp only [Nat.zero_add] at x0 x1 x2 x3 x4 x5 x6 x7 x8 x9 x10
              obtain ⟨dn,hdn⟩:∃ dn,D1.down = dn:=⟨_,rfl⟩
              have HDN:=hid hdn
              have WD:=aFl db mb tb D1 wc (M1.out.xK HE.out)
              rw [hdn] at WD
              have HWD:=hid WD
              clear WD hdn
              go_wp2_with fail
              refine HWD.out.mono ?_
              rintro e w5 ⟨rfl,rfl⟩
              go_upto_if 69 with fail
              go_cut [6,7] (fun vv e7 wz=>∃ b2 D2 V2,vv = .pointer (some ⟨b2.vb,0,none⟩) /\ e7 = .int .i64 0 /\ (b2.db = db /\ b2.mb = mb /\ b2.tb = tb) /\ MX w wz b2 ob ⟨rk,rn,ra,.slice ea en ec,rl,rst,rsv,ri,rt,am,nm,cm,ad,nd,cd,.slice ta' tn' tc',rts⟩ D2 V2 /\ hE D2 V2 /\ D2.steps <= 3000 * j + 2400)
              case first =>
                cases dn with
                | false =>
                  have VI2:Hid (hE D1 V1):=hid (by
                    rcases MD.out.2.2 with h | h
                    . exact h.2
                    . have:=h.1;rw [HDN.out] at this;cases this)
                  go_wp2_with fail
                  go_meet
                  exact ⟨b,D1,V1,rfl,rfl,HE.out,M1.out,VI2.out,by have:=MD.out.2.1;omega⟩
                | true =>
                  have HRD:Hid (Rdy D1 (3000 * j + 1400)):=hid (by
                    rcases MD.out.2.2 with h | h
                    . have:=h.1;rw [HDN.out] at this;cases this
                    . exact h.2)
                  have HTS:Hid (dU wc (.slice ta' tn' tc') rts):=hid (HOK.out.ts.below M1.out.bel)
                  go_wp2_with fail
                  refine (xH db mb tb D1 (.slice ta' tn' tc') rts wc (M1.out.xK HE.out) MD.out.1 HTS.out (aAE HOK.out.ts (M1.out.aI4 HE.out))).mono ?_
                  rintro e w6 ⟨rfl,hd6,hk6⟩
                  have M6:=hid (M1.out.sK HE.out hd6 hk6)
                  clear hd6 hk6
                  go_wp2_with fail
                  refine (aFj db mb tb _ w6 (M6.out.xK HE.out)).mono ?_
                  rintro e w7 ⟨rfl,hd7,hk7⟩
                  have M7:=hid (M6.out.sK HE.out hd7 hk7)
                  clear hd7 hk7 M6
                  obtain ⟨D0,t,v,t',v',s,L,hcr,hs0,hre⟩:=HRD.out
                  obtain ⟨us,hus⟩:=hre rts
                  rw [hus] at M7
                  have HWO:=hid (wB (M7.out.xK HE.out) hcr (by have:=HJN.out;have:=HFEW.out;omega))
                  have HS0:=hid hs0
                  clear hcr hs0 hre hus
                  go_wp2_with fail
                  refine HWO.out.mono ?_
                  rintro e w8 ⟨D2,V2,hor,b2,ev2,fv2,el2,rfl,e1,e2,e3,hv2,hk2,ho2⟩
                  have M8:=hid (M7.out.aIL HE.out hv2 hk2 ho2)
                  have VI2:=hid hor.inv
                  have HS2:Hid (D2.steps <= 3000 * j + 2400):=hid (by have:=hor.steps;have:=HS0.out;omega)
                  have HE2:Hid (b2.db = db /\ b2.mb = mb /\ b2.tb = tb):=hid ⟨e1,e2,e3⟩
                  clear hor e1 e2 e3 hv2 hk2 ho2
                  go_wp2_with fail
                  go_meet
                  exact ⟨b2,D2,V2,rfl,rfl,HE2.out,M8.out,VI2.out,HS2.out⟩
              case rest =>
                clear M1 MD HDN HWD
                obtain ⟨b2,D2,V2,rfl,rfl,he2,hm2,hv2,hs2⟩:=hcut
                have HE2:=hid he2
                have M2:=hid hm2
                have VI2:=hid hv2
                have HS2:=hid hs2
                obtain ⟨ev2,fv2,el2,hva,hge2,_⟩:=hm2.vlt
                have HV2:=hid hva
                have GE2:=hid hge2
                obtain ⟨P2,hi2⟩:=hv2.cut.inv
                have HLL:Hid (V2.L.last <= H59):=hid hi2.hi
                have HNN:=hid (hi2.lok hv2.cut.eN).2
                have HLB:Hid (V2.L.b < H59):=hid hi2.lo.1
                have HS0:Hid (0 <= V2.s.i):=hid hv2.sf.range.1
                obtain ⟨z,hz⟩:∃ z,V2.s.i = z:=⟨_,rfl⟩
                obtain ⟨tt,htt⟩:∃ tt,V2.s.t = tt:=⟨_,rfl⟩
                obtain ⟨lz,hlz⟩:∃ lz:Int,(V2.L.last:Int) = lz:=⟨_,rfl⟩
                obtain ⟨fb,hfb⟩:∃ fb:Int,(V2.L.b:Int) + 1 = fb:=⟨_,rfl⟩
                obtain ⟨zj,hzj⟩:∃ zj:Int,z + 1 = zj:=⟨_,rfl⟩
                obtain ⟨q,hq⟩:∃ q:Nat,V2.s.i.toNat + q = V2.L.last:=⟨V2.L.last - V2.s.i.toNat,by have:=hv2.hi;have:=hv2.sf.range.1;omega⟩
                have hzl:=hv2.hi
                have hzb:=hv2.lo
                have hz0:=hv2.sf.range
                have h59:V2.L.last <= 576460752303423488:=HLL.out
                have HSI:=hid hz
                have HTT:=hid htt
                have HLZ:=hid hlz
                have HFB:=hid hfb
                have HQI:Hid (∃ si:Nat,V2.s.i = si /\ zj = ((si + 1:Nat):Int) /\ V2.L.b <= si /\ si + q = V2.L.last):=hid ⟨V2.s.i.toNat,by omega,by omega,by omega,hq⟩
                have c1:decide (lz < z) = false:=decide_eq_false (by omega)
                have c2:decide (zj < fb) = false:=decide_eq_false (by omega)
                have w1:IntKind.u64.wrap (z + 1) = zj:=by rw [wrap_u64];omega
                have w2:IntKind.u64.wrap (lz - z) = (q:Int):=by rw [wrap_u64];omega
                have w3:IntKind.u64.wrap (q:Int) = (q:Int):=by rw [wrap_u64];omega
                have C1:=hid c1
                have C2:=hid c2
                have W1:=hid w1
                have W2':=hid w2
                have W3':=hid w3
                clear he2 hm2 hv2 hs2 hva hge2 hi2 hz htt hlz hfb hzj hq hzl hzb hz0 h59 c1 c2 w1 w2 w3 x0 x1 x2 x3 x4 x5 x6 x7 x8 x9 x10
                go_wp2_with fail
                refine (aGz HV2.out HSI.out HTT.out).mono ?_
                rintro e w5 ⟨am',nm',cm',ad',nd',cd',rfl,hb5⟩
                have B5:Hid (Below wc.heap.size wc w5):=hid hb5
                clear hb5
                go_wp2_with fail
                generalize hw6:World.alloc w5 _ = w6
                have B6:Hid (Below wc.heap.size wc w6):=hid (by subst hw6;exact B5.out.alloc B5.out.size _)
                have S6:Hid (bZ w6 w5.heap.size z tt (.slice am' nm' cm') (.slice ad' nd' cd')):=hid (by subst hw6;exact bZ.box w5 _ _ _ _)
                obtain ⟨s0,s1,s2,s3,_,_,_,_⟩:=S6.out
                clear hw6
                generalize w5.heap.size = sx at *
                refine (aEi (HV2.out.below B6.out) HLL.out HNN.out HS0.out HSI.out HTT.out).mono ?_
                rintro e wz ⟨rfl,hb7⟩
                have BZ:Hid (Below wc.heap.size wc wz):=hid (B6.out.trans (hb7.mono B6.out.size))
                have SB:Hid (bZ wz sx z tt (.slice am' nm' cm') (.slice ad' nd' cd')):=hid (S6.out.below hb7)
                have HZ:=hid (HV2.out.below BZ.out)
                clear hb7 s0 s1 s2 s3 S6 B5 B6
                go_wp2_with fail
                have ST:=aM.from wz
                have I:=hid (Below.refl wz.heap.size wz)
                have w1:=W1.out
                have w2:=W2'.out
                have w3:=W3'.out
                have c1:=C1.out
                have c2:=C2.out
                refine aL [0,1,0,7,15,31,63,127,63,511,1023,2047,4095,8191,16383,32767,16383,81919,262143,524287,1048575,2097151,4194303,8388607,16777215,33554431,33554431,100663295,268435455,536870911,1073741823,2147483647,2147483647,6442450943,15032385535,34359738367,68719476735,137438953471,2147483647,343597383679,2147483647,1992864825343,4191888080895,8796093022207,17592186044415] 8794180665344 (fun w'=>Below wz.heap.size wz w') (by kernel_rfl) ?_
                refine aB [0,2] (by kernel_rfl) (L:=bm 45 5) (by kernel_rfl) (f':=43) rfl (fun _ _ _ _ h=>h) (fun w o h=>ST.alloc h o) (.inl (by kernel_rfl)) ?_
                simp only [sF,sL]
                iterate 2 (refine aD _ (by rfl) (fun w'=>by go_simp;try with_reducible rfl) ?_;simp only [Act.put,sA])
                refine aF ?_
                refine aI 1 (by kernel_rfl) (L:=bm 45 7) (by kernel_rfl) ?_
                simp only [sL]
                (go_wp2_with fail;(first | (have J:Hid (Below wz.heap.size wz _):=hid (I.out);refine ((jP (HZ.out.below J.out) HLL.out HLZ.out)).mono ?_) | (have J:Hid (Below wz.heap.size wz _):=hid (I.out.drew);refine ((jP (HZ.out.below J.out) HLL.out HLZ.out)).mono ?_) | (have J:Hid (Below wz.heap.size wz _):=hid (I.out.drew.drew);refine ((jP (HZ.out.below J.out) HLL.out HLZ.out)).mono ?_));rintro e cx ⟨rfl,hbx⟩;have I:Hid (Below wz.heap.size wz cx):=hid (J.out.trans (hbx.mono J.out.size));clear hbx J;go_wp2_with fail)
                refine aE nofun ?_
                refine aI 3 (by kernel_rfl) (L:=bm 45 15) (by kernel_rfl) ?_
                simp only [sL]
                (go_wp2_with fail;(first | (have J:Hid (Below wz.heap.size wz _):=hid (I.out);refine ((dM (HZ.out.below J.out) HSI.out)).mono ?_) | (have J:Hid (Below wz.heap.size wz _):=hid (I.out.drew);refine ((dM (HZ.out.below J.out) HSI.out)).mono ?_) | (have J:Hid (Below wz.heap.size wz _):=hid (I.out.drew.drew);refine ((dM (HZ.out.below J.out) HSI.out)).mono ?_));rintro e cx ⟨rfl,hbx⟩;have I:Hid (Below wz.heap.size wz cx):=hid (J.out.trans (hbx.mono J.out.size));clear hbx J;go_wp2_with fail)
                refine aE nofun ?_
                refine aB [4,5,6,8] (by kernel_rfl) (L:=bm 45 383) (by kernel_rfl) (f':=37) rfl (fun _ _ _ _ h=>h) (fun w o h=>ST.alloc h o) (.inl (by kernel_rfl)) ?_
                simp only [sF,sL]
                iterate 4 (first | (refine aD _ (by rfl) (fun w'=>by go_simp;try with_reducible rfl) ?_;simp only [Act.put,sA]) | (refine dY (by rfl) ?_;simp only [Act.put,sA]))
                refine aF ?_
                refine aI 7 (by kernel_rfl) (L:=bm 45 511) (by kernel_rfl) ?_
                simp only [sL]
                (go_wp2_with fail;(first | (have J:Hid (Below wz.heap.size wz _):=hid (I.out);refine ((pY (HZ.out.below J.out) HLB.out HFB.out)).mono ?_) | (have J:Hid (Below wz.heap.size wz _):=hid (I.out.drew);refine ((pY (HZ.out.below J.out) HLB.out HFB.out)).mono ?_) | (have J:Hid (Below wz.heap.size wz _):=hid (I.out.drew.drew);refine ((pY (HZ.out.below J.out) HLB.out HFB.out)).mono ?_));rintro e cx ⟨rfl,hbx⟩;have I:Hid (Below wz.heap.size wz cx):=hid (J.out.trans (hbx.mono J.out.size));clear hbx J;go_wp2_with fail)
                refine aE nofun ?_
                refine aI 9 (by kernel_rfl) (L:=bm 45 1023) (by kernel_rfl) ?_
                simp only [sL]
                (go_wp2_with fail;(first | (have J:Hid (Below wz.heap.size wz _):=hid (I.out);refine ((dM (HZ.out.below J.out) HSI.out)).mono ?_) | (have J:Hid (Below wz.heap.size wz _):=hid (I.out.drew);refine ((dM (HZ.out.below J.out) HSI.out)).mono ?_) | (have J:Hid (Below wz.heap.size wz _):=hid (I.out.drew.drew);refine ((dM (HZ.out.below J.out) HSI.out)).mono ?_));rintro e cx ⟨rfl,hbx⟩;have I:Hid (Below wz.heap.size wz cx):=hid (J.out.trans (hbx.mono J.out.size));clear hbx J;go_wp2_with fail)
                refine aE nofun ?_
                refine aB [10,11,12,13,14,16,17] (by kernel_rfl) (L:=bm 45 229375) (by kernel_rfl) (f':=28) rfl (fun _ _ _ _ h=>h) (fun w o h=>ST.alloc h o) (.inr (by first | exact I.out | exact I.out.drew)) ?_
                simp only [sF,sL]
                iterate 7 (first | (refine aO _ (by rfl) (fun w' hs=>by obtain ⟨s0,s1,s2,s3,_,_,_,_⟩:=SB.out.below hs;go_simp;try with_reducible rfl) rfl ?_;simp only [Act.put,sA]) | (refine aD _ (by rfl) (fun w'=>by go_simp;try with_reducible rfl) ?_;simp only [Act.put,sA]) | (refine dY (by rfl) ?_;simp only [Act.put,sA]))
                refine aF ?_
                refine aI 15 (by kernel_rfl) (L:=bm 45 262143) (by kernel_rfl) ?_
                simp only [sL]
                (go_wp2_with fail;(first | (have J:Hid (Below wz.heap.size wz _):=hid (I.out);refine ((dM (HZ.out.below J.out) HSI.out)).mono ?_) | (have J:Hid (Below wz.heap.size wz _):=hid (I.out.drew);refine ((dM (HZ.out.below J.out) HSI.out)).mono ?_) | (have J:Hid (Below wz.heap.size wz _):=hid (I.out.drew.drew);refine ((dM (HZ.out.below J.out) HSI.out)).mono ?_));rintro e cx ⟨rfl,hbx⟩;have I:Hid (Below wz.heap.size wz cx):=hid (J.out.trans (hbx.mono J.out.size));clear hbx J;go_wp2_with fail)
                refine aE (fun _=>(by first | exact I.out | exact I.out.drew)) ?_
                refine aB [18,19,20,21,22,23,24,25,26,27,28,29,30,31,32,38,40] (by kernel_rfl) (L:=bm 45 1382979469311) (by kernel_rfl) (f':=10) rfl (fun _ _ _ _ h=>h) (fun w o h=>ST.alloc h o) (.inr (by first | exact I.out | exact I.out.drew)) ?_
                simp only [sF,sL]
                iterate 17 (first | (refine aO _ (by rfl) (fun w' hs=>by obtain ⟨s0,s1,s2,s3,_,_,_,_⟩:=SB.out.below hs;go_simp;try with_reducible rfl) rfl ?_;simp only [Act.put,sA]) | (refine aD _ (by rfl) (fun w'=>by go_simp;try with_reducible rfl) ?_;simp only [Act.put,sA]) | (refine dY (by rfl) ?_;simp only [Act.put,sA]))
                refine aF ?_
                refine aI 33 (by kernel_rfl) (L:=bm 45 1391569403903) (by kernel_rfl) ?_
                simp only [sL]
                (go_wp2_with fail;(first | (have J:Hid (Below wz.heap.size wz _):=hid (I.out);refine ((dM (HZ.out.below J.out) HSI.out)).mono ?_) | (have J:Hid (Below wz.heap.size wz _):=hid (I.out.drew);refine ((dM (HZ.out.below J.out) HSI.out)).mono ?_) | (have J:Hid (Below wz.heap.size wz _):=hid (I.out.drew.drew);refine ((dM (HZ.out.below J.out) HSI.out)).mono ?_));rintro e cx ⟨rfl,hbx⟩;have I:Hid (Below wz.heap.size wz cx):=hid (J.out.trans (hbx.mono J.out.size));clear hbx J;go_wp2_with fail)
                refine aE (fun _=>(by first | exact I.out | exact I.out.drew)) ?_
                refine aB [34] (by kernel_rfl) (L:=bm 45 1408749273087) (by kernel_rfl) (f':=8) rfl (fun _ _ _ _ h=>h) (fun w o h=>ST.alloc h o) (.inr (by first | exact I.out | exact I.out.drew)) ?_
                simp only [sF,sL]
                iterate 1 (first | (refine aD _ (by rfl) (fun w'=>by go_simp;try with_reducible rfl) ?_;simp only [Act.put,sA]) | (refine dY (by rfl) ?_;simp only [Act.put,sA]))
                refine aF ?_
                refine aI 35 (by kernel_rfl) (L:=bm 45 1443109011455) (by kernel_rfl) ?_
                simp only [sL]
                (go_wp2_with fail;(first | (have J:Hid (Below wz.heap.size wz _):=hid (I.out);refine ((rS (HZ.out.below J.out) HLL.out HNN.out HQI.out)).mono ?_) | (have J:Hid (Below wz.heap.size wz _):=hid (I.out.drew);refine ((rS (HZ.out.below J.out) HLL.out HNN.out HQI.out)).mono ?_) | (have J:Hid (Below wz.heap.size wz _):=hid (I.out.drew.drew);refine ((rS (HZ.out.below J.out) HLL.out HNN.out HQI.out)).mono ?_));rintro e cx ⟨xa,xc,rfl,hbx⟩;have I:Hid (Below wz.heap.size wz cx):=hid (J.out.trans (hbx.mono J.out.size));clear hbx J;go_wp2_with fail)
                refine aE (fun _=>(by first | exact I.out | exact I.out.drew)) ?_
                refine aB [36,37] (by kernel_rfl) (L:=bm 45 1649267441663) (by kernel_rfl) (f':=5) rfl (fun _ _ _ _ h=>h) (fun w o h=>ST.alloc h o) (.inr (by first | exact I.out | exact I.out.drew)) ?_
                simp only [sF,sL]
                iterate 2 (first | (refine aO _ (by rfl) (fun w' hs=>by obtain ⟨s0,s1,s2,s3,_,_,_,_⟩:=SB.out.below hs;go_simp;try with_reducible rfl) rfl ?_;simp only [Act.put,sA]) | (refine aD _ (by rfl) (fun w'=>by go_simp;try with_reducible rfl) ?_;simp only [Act.put,sA]) | (refine dY (by rfl) ?_;simp only [Act.put,sA]))
                refine aF ?_
                refine aI 39 (by kernel_rfl) (L:=bm 45 2199023255551) (by kernel_rfl) ?_
                simp only [sL]
                (go_wp2_with fail;(first | (have J:Hid (Below wz.heap.size wz _):=hid (I.out);refine ((jP (HZ.out.below J.out) HLL.out HLZ.out)).mono ?_) | (have J:Hid (Below wz.heap.size wz _):=hid (I.out.drew);refine ((jP (HZ.out.below J.out) HLL.out HLZ.out)).mono ?_) | (have J:Hid (Below wz.heap.size wz _):=hid (I.out.drew.drew);refine ((jP (HZ.out.below J.out) HLL.out HLZ.out)).mono ?_));rintro e cx ⟨rfl,hbx⟩;have I:Hid (Below wz.heap.size wz cx):=hid (J.out.trans (hbx.mono J.out.size));clear hbx J;go_wp2_with fail)
                refine aE (fun _=>(by first | exact I.out | exact I.out.drew)) ?_
                refine aI 41 (by kernel_rfl) (L:=bm 45 4398046511103) (by kernel_rfl) ?_
                simp only [sL]
                (go_wp2_with fail;(first | (have J:Hid (Below wz.heap.size wz _):=hid (I.out);refine ((dM (HZ.out.below J.out) HSI.out)).mono ?_) | (have J:Hid (Below wz.heap.size wz _):=hid (I.out.drew);refine ((dM (HZ.out.below J.out) HSI.out)).mono ?_) | (have J:Hid (Below wz.heap.size wz _):=hid (I.out.drew.drew);refine ((dM (HZ.out.below J.out) HSI.out)).mono ?_));rintro e cx ⟨rfl,hbx⟩;have I:Hid (Below wz.heap.size wz cx):=hid (J.out.trans (hbx.mono J.out.size));clear hbx J;go_wp2_with fail)
                refine aE (fun _=>(by first | exact I.out | exact I.out.drew)) ?_
                refine aB [42,43,44] (by kernel_rfl) (L:=bm 45 35184372088831) (by kernel_rfl) (f':=0) rfl (fun _ _ _ _ h=>h) (fun w o h=>ST.alloc h o) (.inr (by first | exact I.out | exact I.out.drew)) ?_
                simp only [sF,sL]
                iterate 3 (first | (refine aD _ (by rfl) (fun w'=>by go_simp;try with_reducible rfl) ?_;simp only [Act.put,sA]) | (refine dY (by rfl) ?_;simp only [Act.put,sA]))
                refine aF ?_
                refine aR (by kernel_rfl) ?_
                have hjn:(j:Int) < 60:=by have:=HJN.out;have:=HFEW.out;omega
                go_wp2_with fail
                go_roundg (n - (j + 1))
                case measure=>have:=HJN.out;omega
                case rel =>
                  first
                    | exact ⟨j + 1,b2,D2,V2,ev2,fv2,el2,rfl,rfl,by first | rfl | go_num,by have:=HJN.out;omega,rfl,by have:=HS2.out;omega,VI2.out,HZ.out.below I.out,HE2.out,GE2.out,M2.out.bel.trans ((BZ.out.trans (I.out.mono BZ.out.size)).mono M2.out.bel.size)⟩
                    | exact ⟨j + 1,b2,D2,V2,ev2,fv2,el2,rfl,rfl,by first | rfl | go_num,by have:=HJN.out;omega,rfl,by have:=HS2.out;omega,VI2.out,HZ.out.below I.out.drew,HE2.out,GE2.out,M2.out.bel.trans ((BZ.out.trans (I.out.drew.mono BZ.out.size)).mono M2.out.bel.size)⟩
          . obtain rfl:j = n:=by omega
            clear hlt hj
            go_wp2_with fail
            refine (oI _).mono ?_
            rintro e w2 ⟨rfl,hb2⟩
            have B2:Hid (Below w.heap.size w w2):=hid (BR.out.trans (hb2.mono BR.out.size))
            clear hb2
            go_wp2_with fail
            go_ret
            exact ⟨rfl,B2.out⟩
end Go.Proofs.YtjdglpcnkiioeaaGreat
namespace Go.Proofs.YtjdglpcnkiioeaaGreat
open Go.ChangeShapes Go.WideShapes Go.ChangeAt Go.RowKit Go.Deep Go.Proofs.Own


set_option maxRecDepth 100000 in
theorem tN (os:Os) (started:os.Started) (H:Type) (enc:TypeId × Value -> H) :
    ReturnsInHanded {} Tryz.checked os 8 .any (Rows.vaultWholeSpec.pre6 enc Tryz.prog Tryz.f8 Rows.vaultWholeRow.domain false) (Rows.vaultWholeSpec.post enc Tryz.prog Tryz.f8 false true false false):=by
  refine returnsInHanded_of_change (C:=Tryz.checked) own started (by kernel_rfl) Tryz.func8
    (ChangeSpec.witness6 (enc:=enc) (C:=Tryz.checked) false ⟨#[],#[.int .i64 0,.slice none 0 0],[]⟩ 8 (by kernel_rfl) (by kernel_rfl) (by kernel_rfl) (by kernel_rfl)) ?_
  intro W base args ds gs before hval0 hW hcnd _
  have hval:∀ (j:Nat) t v,Tryz.f8.params[j]? = some t -> args[j]? = some v -> Value.okWide Tryz.prog W .any base t v:=hval0
  have hW':=hW
  obtain ⟨p,q,hA0,hV,_,hfz,hnd⟩:=hW
  have hA:DataW.TrodAll enc Tryz.prog W 0 (fun _=>true) true Tryz.f8.params.toList args.toList ds p:=hA0
  rw [Tryz.params8] at hA hval
  obtain ⟨v0,v1,d0,d1,p0,p1,rfl,rfl,rfl,h0,h1⟩:=trodAll_two hA
  obtain ⟨z0,rfl⟩:=okWide_int Tryz.underlying3 (hval 0 3 v0 rfl rfl)
  obtain ⟨q1,n1,c1,rfl⟩:=okWide_slice Tryz.underlying101 (hval 1 101 v1 rfl rfl);obtain ⟨f1,g1⟩:=h1;obtain ⟨rs,b1⟩:=aFU (v:=.slice q1 n1 c1) g1
  refine (aD5 W z0 _ rs b1).mono fun e W' ⟨he,hb⟩=>?_
  exact ⟨_,he,aHl laid (by kernel_rfl) ⟨4,rfl,Tryz.underlying4⟩ rfl (fun ds hds=>by
    match ds,hds with
    | [x0,x1],_=>rfl) hW' hb⟩

theorem vwhole_law_holds:Rows.VaultWholeSaid :=
  OpenClaim.holds_of_wide 8 Tryz.f8 rfl rfl rfl rfl rfl rfl rfl ⟨rfl,rfl,rfl,rfl,rfl⟩ rfl rfl rfl rfl rfl (by kernel_rfl) Tryz.func8 (by kernel_rfl)
    (of_decide_eq_true (by kernel_rfl)) (by unfold Func.isWrapper;first | (rw [if_pos (by decide +kernel)];kernel_rfl) | (rw [if_neg (by decide +kernel)];exact ⟨rfl,rfl⟩))
    (fun os started H enc _=>tN os started H enc)
#print axioms vwhole_law_holds
end Go.Proofs.YtjdglpcnkiioeaaGreat
