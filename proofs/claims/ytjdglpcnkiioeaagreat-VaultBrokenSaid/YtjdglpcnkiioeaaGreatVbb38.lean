/- Several texts in one: Wxr. What each proves stands ahead of it; together they serve vbroken_law_holds. No conditions but those stated. -/
import Derived.Test.YtjdglpcnkiioeaaGreatVbb37
namespace Go.Proofs.YtjdglpcnkiioeaaGreat
open Go.Lib (hid)
open Go.RowKit Go.Maps Go.Proofs.Own Go.Shelf

theorem drop1_law {D : DiskS} {L : WalS} {p q : Pc} {s : List Pc} (h : WInv D L (p :: q :: s)) (hd : D.down = false) (hr : Rising D.files) :
    ((removeD D (nameW p.f)).2 = 50 /\ (removeD D (nameW p.f)).1.down = true) \/
    ((removeD D (nameW p.f)).2 = 0 /\ (removeD D (nameW p.f)).1.down = false /\ Rising (removeD D (nameW p.f)).1.files /\ WInv (removeD D (nameW p.f)).1 ⟨L.b + p.es.length, L.es.drop p.es.length, (q :: s).map Pc.wf, L.safe - p.es.length⟩ (q :: s) /\ p.es.length <= L.safe /\ p.es.length <= L.es.length) := by
  have hf := log_find (A := []) hr h.fil (h.in60 (List.mem_cons_self ..))
  have hel : L.es = p.es ++ esOf (q :: s) := h.es
  rcases remove_cases hd hf with ⟨k1, k2, k3⟩ | ⟨k1, k2, k3⟩
  . exact .inl ⟨k1, k2⟩
  . have hes : L.es.drop p.es.length = esOf (q :: s) := by
      rw [hel]
      exact List.drop_left' rfl
    have hlen : L.es.length = p.es.length + (esOf (q :: s)).length := by rw [hel, List.length_append]
    have hqf : q.f = L.b + 1 + p.es.length := h.ch.2.1
    have hq59 := h.lo.2 q (List.mem_cons_of_mem _ (List.mem_cons_self ..))
    have hsafe : p.es.length <= L.safe := by
      obtain ⟨A, z, e⟩ := split_last (P := q :: s) (by simp)
      have := (h.kept (p :: A) z (by rw [e]; rfl)).1
      rw [esOf_cons, List.length_append] at this
      omega
    refine .inr ⟨k1, k2, ?_, ⟨?_, rfl, hes, ?_, ?_, ?_, ?_, ?_, ?_, (by show L.b + p.es.length < H59; omega), fun x hx => h.lo.2 x (List.mem_cons_of_mem _ hx)⟩, hsafe, by omega⟩
    . rw [k3]
      exact hr.del _
    . show (removeD D (nameW p.f)).1.files.filter isW = _
      rw [k3]
      exact log_del (A := []) hr h.fil
    . have := h.ch.2
      rw [show L.b + 1 + p.es.length = L.b + p.es.length + 1 by omega] at this
      exact this
    . intro e he
      exact h.ok e (List.mem_of_mem_drop he)
    . show L.b + p.es.length + (L.es.drop p.es.length).length <= H59
      have := h.hi
      rw [hes]
      omega
    . intro x hx
      refine h.full x ?_
      show x ∈ p :: (q :: s).dropLast
      exact List.mem_cons_of_mem _ hx
    . show L.safe - p.es.length <= (L.es.drop p.es.length).length
      have := h.safe
      rw [hes]
      omega
    . intro B y e
      have hB : p :: q :: s = (p :: B) ++ [y] := by rw [List.cons_append, <- e]
      obtain ⟨s1, s2⟩ := h.kept (p :: B) y hB
      rw [esOf_cons, List.length_append] at s1 s2
      show (esOf B).length <= L.safe - p.es.length /\ _
      refine ⟨by omega, ?_⟩
      rcases s2 with ⟨p0, p1, p2⟩ | ⟨j, j1, j2, j3⟩
      . exact .inl ⟨p0, by show L.safe - p.es.length = _; omega, p2⟩
      . exact .inr ⟨j, j1, by show L.safe - p.es.length <= _; omega, j3⟩
def dropL (L : WalS) (f : WF) (r : List WF) : WalS := ⟨L.b + f.m, L.es.drop f.m, r, L.safe - f.m⟩
theorem CutI.dropped {D : DiskS} {L : WalS} (h : CutI D L) {f g : WF} {r : List WF} (hf : L.fs = f :: g :: r) (hs : D.steps + 1 <= 1000000000) (he : (removeD D (nameW f.f)).2 = 0) :
    CutI (removeD D (nameW f.f)).1 (dropL L f (g :: r)) /\ (removeD D (nameW f.f)).1.steps <= D.steps + 1 /\ f.m <= L.safe /\ f.m <= L.es.length := by
  obtain ⟨⟨P, hi⟩, hd, hr, hg⟩ := h
  have hfs := hi.fs
  rw [hf] at hfs
  match P, hfs with
  | p :: q :: s, hfs =>
    simp only [List.map_cons, List.cons.injEq] at hfs
    obtain ⟨rfl, rfl, rfl⟩ := hfs
    have hg2 := hg.remove (nameW p.f) hs
    rcases drop1_law hi hd hr with ⟨h1, _⟩ | ⟨_, h2, h3, h4, h5, h6⟩
    . have he' : (removeD D (nameW p.f)).2 = 0 := he
      rw [h1] at he'
      cases he'
    . exact ⟨⟨⟨q :: s, h4⟩, h2, h3, hg2.1⟩, hg2.2, h5, h6⟩
theorem dropF_round {upto : Nat} {D : DiskS} {L : WalS} {f g : WF} {r : List WF} (hf : L.fs = f :: g :: r) (hc : g.f <= upto + 1) (he : (removeD D (nameW f.f)).2 = 0) : dropF upto L.fs.length D L = dropF upto (dropL L f (g :: r)).fs.length (removeD D (nameW f.f)).1 (dropL L f (g :: r)) := by
  have hl : L.fs.length = (g :: r).length + 1 := by rw [hf]; rfl
  rw [hl]
  show (match L.fs with | f :: g :: r => _ | _ => _) = _
  rw [hf]
  simp only
  rw [if_pos hc, if_neg (fun h => h he)]
  rfl
theorem dropF_stop {upto : Nat} {D : DiskS} {L : WalS} {f g : WF} {r : List WF} (hf : L.fs = f :: g :: r) (hc : g.f <= upto + 1) (he : (removeD D (nameW f.f)).2 ≠ 0) : dropF upto L.fs.length D L = ((removeD D (nameW f.f)).1, L, (removeD D (nameW f.f)).2) := by
  have hl : L.fs.length = (g :: r).length + 1 := by rw [hf]; rfl
  rw [hl]
  show (match L.fs with | f :: g :: r => _ | _ => _) = _
  rw [hf]
  simp only
  rw [if_pos hc, if_pos he]
theorem dropF_more {upto : Nat} {D : DiskS} {L : WalS} {f g : WF} {r : List WF} (hf : L.fs = f :: g :: r) (hc : ¬ g.f <= upto + 1) (n : Nat) : dropF upto n D L = (D, L, 0) := by
  cases n with
  | zero => rfl
  | succ n =>
    show (match L.fs with | f :: g :: r => _ | _ => _) = _
    rw [hf]
    simp only
    rw [if_neg hc]
theorem dropF_few {upto : Nat} {D : DiskS} {L : WalS} (hf : L.fs.length <= 1) (n : Nat) : dropF upto n D L = (D, L, 0) := by
  cases n with
  | zero => rfl
  | succ n =>
    show (match L.fs with | f :: g :: r => _ | _ => _) = _
    split
    . rename_i h
      rw [h] at hf
      simp at hf
    . rfl
structure FB (W : World) (b : Nat) (f : WF) : Prop where
  c0 : W.cell? ⟨b, 0, none⟩ = some (.int .u64 f.f)
  c1 : W.cell? ⟨b, 1, none⟩ = some (.int .i64 f.m)
  c2 : W.cell? ⟨b, 2, none⟩ = some (.int .i64 f.s)
theorem FB.kept {W W' : World} {b : Nat} {f : WF} {S : Nat -> Prop} (h : FB W b f) (hk : Kept W W' S) (hs : ¬ S b) : FB W' b f := ⟨hk.cell h.c0 hs, hk.cell h.c1 hs, hk.cell h.c2 hs⟩
theorem FB.below {W W' : World} {b : Nat} {f : WF} (h : FB W b f) (hb : Below W.heap.size W W') : FB W' b f := h.kept (Kept.of_below hb (S := fun _ => False) fun k h1 h2 => by omega) id
structure FB4 (W : World) (b : Nat) (f : WF) (lb s : Nat) : Prop where
  fb : FB W b f
  c4 : W.cell? ⟨lb, 4, none⟩ = some (.int .i64 s)
theorem FB4.below {W W' : World} {b : Nat} {f : WF} {lb s : Nat} (h : FB4 W b f lb s) (hb : Below W.heap.size W W') : FB4 W' b f lb s := ⟨h.fb.below hb, Below.at hb h.c4 (World.block_lt_of_cell? _ _ h.c4)⟩
theorem FB4.set1 {W : World} {b : Nat} {f : WF} {lb s : Nat} (h : FB4 W b f lb s) (v : Value) (hb : b ≠ lb) : FB4 (W.setCell ⟨lb, 1, none⟩ v) b f lb s := ⟨h.fb.kept (Kept.setCell W ⟨lb, 1, none⟩ v) hb, by rw [World.cell?_setCell_other _ _ _ _ (by simp)]; exact h.c4⟩

set_option maxHeartbeats 8000000 in
set_option maxRecDepth 20000 in
theorem wdrop {lb db mb tb : Nat} {ev fv : Value} {el : EntR} {D : DiskS} {L : WalS} {w : World} (h : LogAt w lb db mb tb ev fv el D L) (hi : CutI D L) (hst : D.steps + 200 <= 1000000000) (upto : Nat) (hup : (upto : Int) < 18446744073709551616) :
    Calls Tryz.prog 62 #[.pointer (some ⟨lb, 0, none⟩), .int .u64 upto] w (LogPost lb db mb tb ev fv (dropW D L upto) w) := by
  have HH := hid h
  have HI := hid hi
  obtain ⟨P0, hinv⟩ := hi.inv
  have hl : L.last <= H59 := hinv.hi
  have hfew := hinv.few hi.good
  have HST : Hid (D.steps + L.fs.length + 10 <= 1000000000) := hid (by omega)
  have HFW : Hid (L.fs.length <= 128) := hid hfew
  have HB := hid (show (L.last : Int) < 18446744073709551616 by unfold H59 at hl; omega)
  obtain ⟨lz, hlz⟩ : ∃ lz : Int, (L.last : Int) = lz := ⟨_, rfl⟩
  have HLZ := hid hlz
  obtain ⟨up, hupz⟩ : ∃ up : Int, (upto : Int) = up := ⟨_, rfl⟩
  have HUP := hid hupz
  have hl1 : lz <= 576460752303423488 := by unfold H59 at hl; omega
  rw [hupz]
  by_cases ha : L.last < upto
  . have haz : decide (lz < up) = true := decide_eq_true (by omega)
    have HR : Hid (dropW D L upto = (D, L, 2)) := hid (by unfold dropW; rw [if_pos ha])
    clear h hi hinv hl hfew hst hup hlz hupz ha hl1
    go_enter Tryz.func62, Tryz.ntmps62
    go_wp2_with fail
    refine (wnone HH.out).mono ?_
    rintro e w1 ⟨rfl, rfl⟩
    go_wp2_with fail
    refine (wlast HH.out HB.out).mono ?_
    rintro e w2 ⟨rfl, hb2⟩
    rw [HLZ.out]
    have L2 := hid (HH.out.below hb2)
    have B2 : Hid (LStep lb db mb tb w ev fv w2 ev fv) := hid (LStep.below hb2)
    clear hb2
    go_wp2_with fail
    go_ret
    rw [HR.out]
    exact ⟨rfl, _, _, _, L2.out, B2.out⟩
  . have haz : decide (lz < up) = false := decide_eq_false (by omega)
    have HU : Hid (0 <= up /\ up <= 576460752303423488) := hid ⟨by omega, by omega⟩
    have hu1 := HU.out
    have wz : IntKind.u64.wrap (up + 1) = up + 1 := by rw [wrap_u64]; omega
    have HR : Hid (dropW D L upto = dropF upto L.fs.length D L) := hid (by unfold dropW; rw [if_neg ha])
    clear hu1 h hi hinv hl hfew hst hup hlz hupz ha hl1
    go_enter Tryz.func62, Tryz.ntmps62
    go_wp2_with fail
    refine (wnone HH.out).mono ?_
    rintro e w1 ⟨rfl, rfl⟩
    go_wp2_with fail
    refine (wlast HH.out HB.out).mono ?_
    rintro e w2 ⟨rfl, hb2⟩
    rw [HLZ.out]
    have L2 := hid (HH.out.below hb2)
    have S2 : Hid (LStep lb db mb tb w ev fv w2 ev fv) := hid (LStep.below hb2)
    clear hb2
    go_wp2_with fail
    go_loopw [] (fun wr => ∃ D' L' ev' fv' el', LogAt wr lb db mb tb ev' fv' el' D' L' /\ LStep lb db mb tb w ev fv wr ev' fv' /\ dropF upto L'.fs.length D' L' = dropF upto L.fs.length D L /\ CutI D' L' /\ D'.steps + L'.fs.length + 10 <= 1000000000 /\ L'.fs.length <= 128) (fun wr => nFilesAt lb wr)
    case atStart => exact ⟨D, L, ev, fv, el, L2.out, S2.out, rfl, HI.out, HST.out, HFW.out⟩
    case round =>
      obtain ⟨D', L', ev', fv', el', hl, hst, hr, hi, hs, hf⟩ := hrel
      have HL := hid hl
      have HS := hid hst
      have HRF := hid hr
      have HI' := hid hi
      have HS' := hid hs
      have HF' := hid hf
      have HOK := hid ((hi.inv.choose_spec.lok hi.good).1)
      have c3 := hl.c3
      obtain ⟨fa, fc, rfl, hfc⟩ := hl.shapeF
      obtain ⟨n, hn⟩ : ∃ n, L'.fs.length = n := ⟨_, rfl⟩
      have HN := hid hn
      rw [hn] at c3 HL HS hfc
      clear hl hst hr hi hs hf
      by_cases h1 : n <= 1
      . have hn1 : decide ((1 : Int) < (n : Int)) = false := decide_eq_false (by omega)
        have HE : Hid (dropF upto L.fs.length D L = (D', L', 0)) := hid (by rw [<- HRF.out, dropF_few (by omega)])
        clear h1 hfc hn
        go_wp2_with fail
        go_ret
        rw [HR.out, HE.out]
        exact ⟨rfl, _, _, _, HL.out, HS.out.1, HS.out.2.1, HS.out.2.2⟩
      . have hn1 : decide ((1 : Int) < (n : Int)) = true := decide_eq_true (by omega)
        have hn1' : (1 : Int) < (n : Int) := by omega
        have hn0' : (0 : Int) < (n : Int) := by omega
        obtain ⟨f, g1, r, hfs⟩ : ∃ f g1 r, L'.fs = f :: g1 :: r := by
          match e : L'.fs with
          | [] => rw [e] at hn; simp at hn; omega
          | [x] => rw [e] at hn; simp at hn; omega
          | x :: y :: r => exact ⟨x, y, r, rfl⟩
        obtain ⟨g, c', e1, hc', hg'⟩ := OwnL.some HL.out.fr (by rw [hfs]; simp)
        have e3 := (Value.slice.inj e1).1
        have e4 := (Value.slice.inj e1).2.2
        clear e1 hc' hg'
        subst e3 e4
        have HFS := hid hfs
        obtain ⟨x0, x1, x2⟩ := HL.out.cellF (k := 0) (by omega)
        have q0 := (HL.out.cellF (k := 1) (by omega)).1
        simp only [hfs, List.getElem_cons_zero, List.getElem_cons_succ, Nat.zero_mul, Nat.zero_add, Nat.one_mul] at x0 x1 x2 q0
        obtain ⟨gf, hgf⟩ : ∃ gf : Int, (g1.f : Int) = gf := ⟨_, rfl⟩
        rw [hgf] at q0
        by_cases hc : g1.f <= upto + 1
        . have hcz : decide (gf <= up + 1) = true := decide_eq_true (by have := HUP.out; omega)
          have HC := hid hc
          have HNM := hid ((HOK.out).nm f (by rw [hfs]; exact List.mem_cons_self ..))
          have HNS : Hid ((nameW f.f).size <= maxLen) := hid (Nat.le_trans (size_nameW_le f.f) (by decide))
          have HFM : Hid (f.m <= L'.es.length) := hid ((HOK.out).m (by rw [hfs]; exact List.mem_cons_self ..))
          have HB59 : Hid ((L'.b : Int) <= 1152921504606846976 /\ (L'.es.length : Int) <= 2147483648) := hid ⟨by have := (HOK.out).b; omega, by have := (HOK.out).few; omega⟩
          obtain ⟨ea, ec, rfl, _⟩ := HL.out.shapeE
          obtain ⟨en, hen⟩ : ∃ en, L'.es.length = en := ⟨_, rfl⟩
          have HEN := hid hen
          rw [hen] at HL HS
          have hgc := HL.out.lt
          clear h1 hn hfc hfs hgf hc hen
          go_wp2_with fail
          generalize hwa : World.alloc wr _ = wa
          have BA : Below wr.heap.size wr wa := by subst hwa; exact (Below.refl _ _).alloc (Nat.le_refl _) _
          have FA : Hid (FB wa wr.heap.size f) := hid (by subst hwa; exact ⟨by go_cell, by go_cell, by go_cell⟩)
          have LA := hid (HL.out.below BA)
          have SA := hid (HS.out.trans (LStep.below BA))
          have HNB : Hid (¬ Own3 db mb tb wr.heap.size) := hid (fun h => by have := HL.out.disk.lt3 _ h; omega)
          have HFB : Hid (wr.heap.size ≠ lb) := hid (by omega)
          clear BA hwa q0 x0 x1 x2 c3 hgc
          generalize wr.heap.size = fb at *
          have STa := Stable.from wa
          go_wp2_with fail
          refine region_start [0, 1, 3, 7, 0, 16, 63, 127] 32 (fun w' => Below wa.heap.size wa w') (by kernel_rfl) ?_
          refine stage_heads [0, 1, 2, 3, 4] (by kernel_rfl) (L := #[true, true, true, true, true, false, false, false]) (by kernel_rfl) (f' := 3) rfl (fun _ _ _ _ h => h) (fun w o h => STa.alloc h o) (.inr (by first | exact Below.refl _ _ | exact (Below.refl _ _).drew)) ?_
          simp only [sF, sL]
          iterate 5 (first | (refine heads_load _ (by rfl) (fun w' hs => by have Y := LA.out.below hs; have b0 := Y.c0; obtain ⟨y0, y1, y2⟩ := FA.out.below hs; go_simp; try with_reducible rfl) rfl ?_; simp only [Act.put, sA]) | (refine heads_pure _ (by rfl) (fun w' => by go_simp; try with_reducible rfl) ?_; simp only [Act.put, sA]))
          refine heads_nil ?_
          refine stage_op 5 (by kernel_rfl) (L := #[true, true, true, true, true, true, false, false]) (by kernel_rfl) ?_
          simp only [sL]
          go_wp2_with fail; refine (wname f.f f.m f.s _ HNM.out.1 HNM.out.2).mono ?_; rintro e u5 ⟨rfl, hb5⟩; have I5 : Hid (Below wa.heap.size wa u5) := hid (by first | exact hb5 | exact ((Below.refl _ _).drew).trans hb5); clear hb5; go_wp2_with fail
          refine step_post (fun _ => I5.out) ?_
          refine stage_op 6 (by kernel_rfl) (L := #[true, true, true, true, true, true, true, false]) (by kernel_rfl) ?_
          simp only [sL]
          go_wp2_with fail; have L5 := hid (LA.out.below I5.out); refine (dremove_any db mb tb D' (nameW f.f) u5 L5.out.disk HI'.out.good.wf HNS.out).mono ?_; rintro e w6 ⟨rfl, hd6, hk6⟩; have L6 : Hid (LogAt w6 lb db mb tb (.slice ea en ec) (.slice (some ⟨g, 0, none⟩) n fc) el' (removeD D' (nameW f.f)).1 L') := hid (L5.out.disked hd6 hk6); have S6 : Hid (LStep lb db mb tb w ev fv w6 (.slice ea en ec) (.slice (some ⟨g, 0, none⟩) n fc)) := hid (SA.out.trans ((LStep.below I5.out).trans (LStep.disk hk6))); have F6 := hid ((FA.out.below I5.out).kept hk6 HNB.out); clear hd6 hk6; obtain ⟨k, hk⟩ : ∃ k, (removeD D' (nameW f.f)).2 = k := ⟨_, rfl⟩; have HK := hid hk; rw [hk]; clear hk; go_wp2_with fail
          refine step_post nofun ?_
          refine stage_heads [7] (by kernel_rfl) (L := #[true, true, true, true, true, true, true, true]) (by kernel_rfl) (f' := 0) rfl (fun _ _ _ _ h => h) (fun w o h => STa.alloc h o) (.inl (by kernel_rfl)) ?_
          simp only [sF, sL]
          iterate 1 (refine heads_pure _ (by rfl) (fun w' => by go_simp; try with_reducible rfl) ?_; simp only [Act.put, sA])
          refine heads_nil ?_
          refine stage_done (by kernel_rfl) ?_

          by_cases hk0 : k = 0
          . have hkb : ((k : Int) != 0) = false := by rw [hk0]; rfl
            have HK0 : Hid ((removeD D' (nameW f.f)).2 = 0) := hid (HK.out.trans hk0)
            have HD := hid (HI'.out.dropped HFS.out (by have := HS'.out; omega) HK0.out)
            clear hk0
            have hm1 : f.m <= (entRows el').length := by rw [entRows_length, L6.out.lenE, ]; exact HFM.out
            obtain ⟨v7', hs7, ho7, hcut7⟩ := SRow.cutl (P := Tryz.prog) (t := 32) Tryz.underlying32 (by kernel_rfl) L6.out.fr.srow 1 (by rw [List.length_map, HFS.out]; simp)
            have hr7 : (L'.fs.map wfRow).drop 1 = (g1 :: r).map wfRow := by rw [HFS.out]; rfl
            rw [hr7] at hs7
            have H7 := hid hs7
            obtain ⟨v8', hs8, ho8, hcut8⟩ := SRow.cutlK (P := Tryz.prog) (t := 23) Tryz.underlying23 (by kernel_rfl) .i64 L6.out.er.srow f.m hm1
            have hr8 : (entRows el').drop f.m = entRows (el'.drop f.m) := by unfold entRows; rw [List.map_drop]
            rw [hr8] at hs8
            have H8 := hid hs8
            have HD8 : Hid (Datas w6 (fun _ => False) (el'.drop f.m)) := hid ((L6.out.dat.sub fun p hp => List.mem_of_mem_drop hp).mono fun _ _ _ _ hf => hf.elim)
            have HLN : Hid ((g1 :: r).length <= 2147483648) := hid (by have := HF'.out; have := HFS.out; have e : L'.fs.length = (g1 :: r).length + 1 := (by rw [HFS.out]; rfl); omega)
            have HLE : Hid ((el'.drop f.m).length <= 2147483648) := hid (by rw [List.length_drop, L6.out.lenE]; have := (HOK.out).few; omega)
            have hcut7' : ∀ w', (Instr.slice 32 (.slice (some ⟨g, 0, none⟩) n fc) (some (.int .i64 1)) none none).run Tryz.prog w' = .ok v7' w' := hcut7
            obtain ⟨p7, n7', c7', rfl⟩ : ∃ a n c, v7' = Value.slice a n c := by obtain ⟨a, c, e, _⟩ := hs7.shape; exact ⟨a, _, c, e⟩
            obtain ⟨p8, n8', c8', rfl⟩ : ∃ a n c, v8' = Value.slice a n c := by obtain ⟨a, c, e, _⟩ := hs8.shape; exact ⟨a, _, c, e⟩
            have ST6 := Stable.from w6
            clear hs7 ho7 hr7 hs8 ho8 hr8 hm1 hcut7
            go_wp2_with fail
            refine region_start [0, 0, 0, 4, 12, 28, 60, 124, 0, 256, 768, 1792, 0, 4096, 16128, 32764, 65533, 131069, 262141, 524287, 1048575, 2097151] 128 (fun w' => Below w6.heap.size w6 w') (by kernel_rfl) ?_
            refine stage_heads [0, 1, 2, 3, 4, 5, 6, 8, 9, 10, 11, 12, 13, 14] (by kernel_rfl) (L := #[true, true, true, true, true, true, true, false, true, true, true, true, true, true, true, false, false, false, false, false, false, false]) (by kernel_rfl) (f' := 8) rfl (fun _ _ _ _ h => h) (fun w o h => ST6.alloc h o) (.inr (by first | exact Below.refl _ _ | exact (Below.refl _ _).drew)) ?_
            simp only [sF, sL]
            iterate 14 (first | (refine heads_load _ (by rfl) (fun w' hs => by have Y := L6.out.below hs; have b2 := Y.c2; have b3 := Y.c3; obtain ⟨y0, y1, y2⟩ := F6.out.below hs; go_simp; try with_reducible rfl) rfl ?_; simp only [Act.put, sA]) | (refine heads_pure _ (by rfl) (fun w' => by go_simp; try with_reducible rfl) ?_; simp only [Act.put, sA]))
            refine heads_nil ?_
            refine stage_op 7 (by kernel_rfl) (L := #[true, true, true, true, true, true, true, true, true, true, true, true, true, true, true, false, false, false, false, false, false, false]) (by kernel_rfl) ?_
            simp only [sL]
            go_wp2_with fail; refine (fclone_any _ (g1 :: r) _ (H7.out.below (by first | exact Below.refl _ _ | exact (Below.refl _ _).drew)) HLN.out).mono ?_; rintro e w7 ⟨v7, rfl, ho7, hb7, hn7⟩; have I7 : Hid (Below w6.heap.size w6 w7) := hid (by first | exact hb7 | exact ((Below.refl _ _).drew).trans hb7); have O7 := hid ho7; have N7 : Hid (∀ b, v7.ownBlock = some b -> w6.heap.size <= b) := hid hn7; obtain ⟨a7, n7, c7, rfl⟩ : ∃ a n c, v7 = Value.slice a n c := (by obtain ⟨a, c, e, _⟩ := ho7.shape; exact ⟨a, _, c, e⟩); clear ho7 hb7 hn7; go_wp2_with fail
            refine step_post (fun _ => I7.out) ?_
            refine stage_op 15 (by kernel_rfl) (L := #[true, true, true, true, true, true, true, true, true, true, true, true, true, true, true, true, false, false, false, false, false, false]) (by kernel_rfl) ?_
            simp only [sL]
            go_wp2_with fail; refine (eclone_any _ (el'.drop f.m) w7 (H8.out.below I7.out) (HD8.out.kept (Kept.of_below I7.out (S := fun _ => False) fun k h1 h2 => by omega) fun _ h => h) HLE.out).mono ?_; rintro e w8 ⟨v8, rfl, ho8, hb8, hn8⟩; have I8 : Hid (Below w6.heap.size w6 w8) := hid (I7.out.trans (hb8.mono I7.out.size)); have O8 := hid ho8; have O78 := hid (O7.out.below hb8); have N8 : Hid (∀ b, v8.ownBlock = some b -> w7.heap.size <= b) := hid hn8; obtain ⟨a8, n8, c8, rfl⟩ : ∃ a n c, v8 = Value.slice a n c := (by obtain ⟨a, c, e, _⟩ := ho8.shape; exact ⟨a, _, c, e⟩); have HN78 : Hid (w7.heap.size <= w8.heap.size) := hid hb8.size; have F8 := hid (F6.out.below I8.out); have L8 := hid (L6.out.below I8.out); clear ho8 hb8 hn8; go_wp2_with fail
            refine step_post nofun ?_
            refine stage_heads [16, 17] (by kernel_rfl) (L := #[true, true, true, true, true, true, true, true, true, true, true, true, true, true, true, true, true, true, false, false, false, false]) (by kernel_rfl) (f' := 4) rfl (fun _ _ _ _ h => h) (fun w o h => ST6.alloc h o) (.inl (by kernel_rfl)) ?_
            simp only [sF, sL]
            iterate 2 (refine heads_pure _ (by rfl) (fun w' => by go_simp; try with_reducible rfl) ?_; simp only [Act.put, sA])
            refine heads_nil ?_
            refine stage_op 18 (by kernel_rfl) (L := #[true, true, true, true, true, true, true, true, true, true, true, true, true, true, true, true, true, true, true, false, false, false]) (by kernel_rfl) ?_
            simp only [sL]
            have x3 := L8.out.c3; have x2 := L8.out.c2; have z3 := L8.out.fz 3 (by decide) (by decide); have z2 := L8.out.fz 2 (by decide) (by decide); go_wp2_with fail
            refine step_post nofun ?_
            refine stage_heads [19, 20] (by kernel_rfl) (L := #[true, true, true, true, true, true, true, true, true, true, true, true, true, true, true, true, true, true, true, true, true, false]) (by kernel_rfl) (f' := 1) rfl (fun _ _ _ _ h => h) (fun w o h => ST6.alloc h o) (.inl (by kernel_rfl)) ?_
            simp only [sF, sL]
            iterate 2 (refine heads_pure _ (by rfl) (fun w' => by go_simp; try with_reducible rfl) ?_; simp only [Act.put, sA])
            refine heads_nil ?_
            refine stage_op 21 (by kernel_rfl) (L := #[true, true, true, true, true, true, true, true, true, true, true, true, true, true, true, true, true, true, true, true, true, true]) (by kernel_rfl) ?_
            simp only [sL]
            go_wp2_with fail
            refine step_post nofun ?_
            refine stage_done (by kernel_rfl) ?_

            have L9a : Hid (LogAt (w8.setCell ⟨lb, 3, none⟩ (.slice a7 n7 c7)) lb db mb tb (.slice ea en ec) (.slice a7 n7 c7) el' (removeD D' (nameW f.f)).1 { L' with fs := g1 :: r }) := hid (L8.out.set3 (fs := g1 :: r) O78.out (fun b hb => by
              have h1 := N7.out b hb
              refine ⟨fun e => ?_, fun e => ?_, fun e => ?_⟩
              . have := L6.out.lt; omega
              . have := L6.out.disk.lt3 _ e; omega
              . have := L6.out.er.lt _ e; omega))
            have O9 : OwnL (w8.setCell ⟨lb, 3, none⟩ (.slice a7 n7 c7)) 38 3 (.slice a8 n8 c8) (entRows (el'.drop f.m)) := O8.out.kept (Kept.setCell w8 ⟨lb, 3, none⟩ _) (fun b hb e => by
              have h1 := N8.out b hb
              have h2 : b = lb := e
              have := L6.out.lt
              have := I7.out.size
              omega)
            have hes : (el'.drop f.m).map (·.1) = L'.es.drop f.m := by rw [List.map_drop, L6.out.es]
            obtain ⟨w9, hw9⟩ : ∃ w9, (w8.setCell ⟨lb, 3, none⟩ (.slice a7 n7 c7)).setCell ⟨lb, 2, none⟩ (.slice a8 n8 c8) = w9 := ⟨_, rfl⟩
            have L9 : Hid (LogAt w9 lb db mb tb (.slice a8 n8 c8) (.slice a7 n7 c7) (el'.drop f.m) (removeD D' (nameW f.f)).1 ⟨L'.b, L'.es.drop f.m, g1 :: r, L'.safe⟩) := hid (by
              have h := L9a.out.set2 (ev' := .slice a8 n8 c8) (el' := el'.drop f.m) O9 (L9a.out.dat.sub fun p hp => List.mem_of_mem_drop hp) (fun b hb => by
                have h1 := N8.out b hb
                have h0 := I7.out.size
                refine ⟨fun e => ?_, fun e => ?_, fun e => ?_⟩
                . have := L6.out.lt; omega
                . have := L6.out.disk.lt3 _ e; omega
                . have := O7.out.lt _ e; omega)
              rw [hes, hw9] at h
              exact h)
            have S9 : Hid (LStep lb db mb tb w ev fv w9 (.slice a8 n8 c8) (.slice a7 n7 c7)) := hid (S6.out.trans ⟨by
              rw [<- hw9]
              exact ((Kept.of_below I8.out (S := fun b => b = lb) fun k h1 h2 => by omega).trans ((Kept.setCell w8 ⟨lb, 3, none⟩ _).trans (Kept.setCell _ ⟨lb, 2, none⟩ _))).mono fun k _ e => .inl e, fun b hb => .inr (Nat.le_trans I7.out.size (N8.out b hb)), fun b hb => .inr (N7.out b hb)⟩)
            have F9 : Hid (FB w9 fb f) := hid (by
              rw [<- hw9]
              exact (F8.out.kept (Kept.setCell w8 ⟨lb, 3, none⟩ _) HFB.out).kept (Kept.setCell _ ⟨lb, 2, none⟩ _) HFB.out)
            rw [hw9]
            obtain ⟨bm, hbm⟩ : ∃ bm : Nat, L'.b + f.m = bm := ⟨_, rfl⟩
            obtain ⟨sm, hsm⟩ : ∃ sm : Nat, L'.safe - f.m = sm := ⟨_, rfl⟩
            have HBM := hid hbm
            have HSM := hid hsm
            have ebm : (L'.b : Int) + (f.m : Int) = (bm : Int) := by omega
            have esm : (L'.safe : Int) - (f.m : Int) = (sm : Int) := by have := HD.out.2.2.1; omega
            have hsl : L'.safe <= L'.es.length := (HOK.out).safe
            have wm : IntKind.u64.wrap (f.m : Int) = (f.m : Int) := by rw [wrap_u64]; have := HFM.out; have := HB59.out.2; omega
            have wbm : IntKind.u64.wrap (bm : Int) = (bm : Int) := by rw [wrap_u64]; have := HFM.out; have := HB59.out; omega
            have wsm : IntKind.i64.wrap (sm : Int) = (sm : Int) := by simp only [IntKind.wrap_i64]; have := HB59.out; omega
            have wsm' : wrap64 (sm : Int) = (sm : Int) := by unfold wrap64; have := HB59.out; omega
            have x1 : w9.cell? ⟨lb, 1, none⟩ = some (.int .u64 (L'.b : Int)) := L9.out.c1
            have x4 : w9.cell? ⟨lb, 4, none⟩ = some (.int .i64 (L'.safe : Int)) := L9.out.c4
            have F94 : Hid (FB4 w9 fb f lb L'.safe) := hid ⟨F9.out, x4⟩
            have z1 := L9.out.fz 1 (by decide) (by decide)
            have z4 := L9.out.fz 4 (by decide) (by decide)
            clear L9a O9 hes hw9 hbm hsm hsl x2 x3 z2 z3 hcut7' hcut8
            go_wp2_with fail
            refine region_start [0, 0, 0, 4, 12, 28, 0, 64, 192, 508, 0, 1024, 3072, 7168, 0, 16384, 64512, 16381, 147453, 409597, 1048575, 2097151, 4194303] 918048 (fun w' => FB4 w' fb f lb L'.safe) (by kernel_rfl) ?_
            refine stage_heads [0, 1, 2, 3, 4, 6, 7, 8, 10, 11, 12, 13, 14, 15, 16] (by kernel_rfl) (L := #[true, true, true, true, true, false, true, true, true, false, true, true, true, true, true, true, true, false, false, false, false, false, false]) (by kernel_rfl) (f' := 8) rfl (fun _ _ _ _ h => h) (fun w o h => h.below ((Below.refl _ _).alloc (Nat.le_refl _) o)) (.inr (by first | exact F94.out | exact F94.out.below ((Below.refl _ _).drew))) ?_
            simp only [sF, sL]
            iterate 15 (first | (refine heads_load _ (by rfl) (fun w' hs => by obtain ⟨⟨y0, y1, y2⟩, y4⟩ := hs; go_simp; try with_reducible rfl) rfl ?_; simp only [Act.put, sA]) | (refine heads_pure _ (by rfl) (fun w' => by go_simp; try with_reducible rfl) ?_; simp only [Act.put, sA]))
            refine heads_nil ?_
            refine stage_op 5 (by kernel_rfl) (L := #[true, true, true, true, true, true, true, true, true, false, true, true, true, true, true, true, true, false, false, false, false, false, false]) (by kernel_rfl) ?_
            simp only [sL]
            go_wp2_with fail
            refine step_post (fun _ => (by first | exact F94.out | exact F94.out.below ((Below.refl _ _).drew))) ?_
            refine stage_heads [9, 17, 18] (by kernel_rfl) (L := #[true, true, true, true, true, true, true, true, true, true, true, true, true, true, true, true, true, true, true, false, false, false, false]) (by kernel_rfl) (f' := 4) rfl (fun _ _ _ _ h => h) (fun w o h => h.below ((Below.refl _ _).alloc (Nat.le_refl _) o)) (.inr (by first | exact F94.out | exact F94.out.below ((Below.refl _ _).drew))) ?_
            simp only [sF, sL]
            iterate 3 (refine heads_pure _ (by rfl) (fun w' => by go_simp; try with_reducible rfl) ?_; simp only [Act.put, sA])
            refine heads_nil ?_
            refine stage_op 19 (by kernel_rfl) (L := #[true, true, true, true, true, true, true, true, true, true, true, true, true, true, true, true, true, true, true, true, false, false, false]) (by kernel_rfl) ?_
            simp only [sL]
            go_wp2_with fail
            refine step_post (fun _ => (by first | exact F94.out.set1 _ HFB.out | exact (F94.out.below ((Below.refl _ _).drew)).set1 _ HFB.out)) ?_
            refine stage_heads [20, 21] (by kernel_rfl) (L := #[true, true, true, true, true, true, true, true, true, true, true, true, true, true, true, true, true, true, true, true, true, true, false]) (by kernel_rfl) (f' := 1) rfl (fun _ _ _ _ h => h) (fun w o h => h.below ((Below.refl _ _).alloc (Nat.le_refl _) o)) (.inl (by kernel_rfl)) ?_
            simp only [sF, sL]
            iterate 2 (refine heads_pure _ (by rfl) (fun w' => by go_simp; try with_reducible rfl) ?_; simp only [Act.put, sA])
            refine heads_nil ?_
            refine stage_op 22 (by kernel_rfl) (L := #[true, true, true, true, true, true, true, true, true, true, true, true, true, true, true, true, true, true, true, true, true, true, true]) (by kernel_rfl) ?_
            simp only [sL]
            go_wp2_with fail
            refine step_post nofun ?_
            refine stage_done (by kernel_rfl) ?_
            have L10 := hid ((L9.out.set1 bm).set4 sm)
            have S10 : Hid (LStep lb db mb tb w ev fv ((w9.setCell ⟨lb, 1, none⟩ (.int .u64 (bm : Nat))).setCell ⟨lb, 4, none⟩ (.int .i64 (sm : Nat))) (.slice a8 n8 c8) (.slice a7 n7 c7)) := hid (S9.out.trans (LStep.own ((Kept.setCell w9 ⟨lb, 1, none⟩ _).trans (Kept.setCell _ ⟨lb, 4, none⟩ _))))
            have HL10 : Hid (dropL L' f (g1 :: r) = ⟨bm, L'.es.drop f.m, g1 :: r, sm⟩) := hid (by unfold dropL; rw [HBM.out, HSM.out])
            have HFE : Hid (L'.fs.length = (g1 :: r).length + 1) := hid (by rw [HFS.out]; rfl)
            generalize hwz : World.drew _ = wz
            have BZ : Below ((w9.setCell ⟨lb, 1, none⟩ (.int .u64 (bm : Nat))).setCell ⟨lb, 4, none⟩ (.int .i64 (sm : Nat))).heap.size ((w9.setCell ⟨lb, 1, none⟩ (.int .u64 (bm : Nat))).setCell ⟨lb, 4, none⟩ (.int .i64 (sm : Nat))) wz := by rw [<- hwz]; exact (Below.refl _ _).drew
            have LZ := hid (L10.out.below BZ)
            have SZ := hid (S10.out.trans (LStep.below BZ))
            clear hwz BZ x1 x4 z1 z4 ebm esm wm wbm wsm wsm'
            go_wp2_with fail
            go_roundw
            case rel =>
              refine ⟨(removeD D' (nameW f.f)).1, dropL L' f (g1 :: r), _, _, _, (by rw [HL10.out]; exact LZ.out), SZ.out, ?_, HD.out.1, ?_, ?_⟩
              . rw [<- HRF.out, dropF_round HFS.out HC.out HK0.out]
              . have := HD.out.2.1; have := HS'.out; have := HFE.out; show _ + ((g1 :: r).length : Int) + 10 <= _; omega
              . have := HF'.out; have := HFE.out; show (g1 :: r).length <= 128; omega
            case measure =>
              rw [HL.out.nfs, LZ.out.nfs, HFE.out]
              exact Nat.lt_succ_self _
          . have hkb : ((k : Int) != 0) = true := by simp; omega
            have HK0 : Hid ((removeD D' (nameW f.f)).2 ≠ 0) := hid (by rw [HK.out]; exact hk0)
            clear hk0
            go_wp2_with fail
            go_ret
            have HE : dropF upto L.fs.length D L = ((removeD D' (nameW f.f)).1, L', (removeD D' (nameW f.f)).2) := by rw [<- HRF.out, dropF_stop HFS.out HC.out HK0.out]
            rw [HR.out, HE]
            exact ⟨by rw [HK.out]; rfl, _, _, _, L6.out, S6.out.1, S6.out.2.1, S6.out.2.2⟩
        . have hcz : decide (gf <= up + 1) = false := decide_eq_false (by have := HUP.out; omega)
          have HE : Hid (dropF upto L.fs.length D L = (D', L', 0)) := hid (by rw [<- HRF.out, dropF_more hfs hc])
          clear h1 hn hfc hfs hgf hc
          go_wp2_with fail
          go_ret
          rw [HR.out, HE.out]
          exact ⟨rfl, _, _, _, HL.out, HS.out.1, HS.out.2.1, HS.out.2.2⟩
end Go.Proofs.YtjdglpcnkiioeaaGreat
