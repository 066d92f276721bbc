/- The document's 'Same' of two snapshots; no conditions but the ranges. -/
import Derived.Test.YtofhccpagnkalaaGreatSnp
namespace Go.Proofs.YtofhccpagnkalaaGreat
open Go.RowKit Go.Maps Go.Proofs.Own

def SnapS.same (s r : SnapS) : Prop := s.i = r.i ∧ s.t = r.t ∧ s.ms = r.ms ∧ s.d = r.d
instance (s r : SnapS) : Decidable (s.same r) := inferInstanceAs (Decidable (_ ∧ _))
def SnapS.sameB (s r : SnapS) : Bool := decide (s.same r)
theorem SnapS.same_iff {s r : SnapS} : s.same r ↔ s = r := by
  cases s; cases r; simp [SnapS.same]
theorem SnapS.sameB_refl (s : SnapS) : s.sameB s = true := decide_eq_true ⟨rfl, rfl, rfl, rfl⟩
theorem SnapS.sameB_iff {s r : SnapS} : s.sameB r = true ↔ s = r := by simp [SnapS.sameB, SnapS.same_iff]

set_option maxHeartbeats 2000000 in
set_option maxRecDepth 20000 in
theorem rsame_any (v1 v2 : Value) (s r : SnapS) (w : World) (hs : SnapIs w v1 s) (hr : SnapIs w v2 r) :
    Calls Tryz.prog 15 #[v1, v2] w fun e w' => e = .returned (.bool (s.sameB r)) ∧ Below w.heap.size w w' := by
  obtain ⟨mv, dv, rfl, hm, hd⟩ := hs
  obtain ⟨nv, ev, rfl, hn, he⟩ := hr
  obtain ⟨i, t, ms, d⟩ := s
  obtain ⟨j, u, ns, e⟩ := r
  simp only at hm hd hn he ⊢
  have hml : (ms.length : Int) ≤ 2097152 := by have := hm.small; omega
  have hnl : (ns.length : Int) ≤ 2097152 := by have := hn.small; omega
  have c1 : ∀ o1 o2, (convert 22 9 dv).run Tryz.prog ((w.alloc o1).alloc o2) = .ok (.string (strN d)) ((w.alloc o1).alloc o2) := fun o1 o2 => ((hd.alloc o1).alloc o2).str Tryz.underlying22 Tryz.underlying5 Tryz.underlying9
  have c2 : ∀ o1 o2, (convert 22 9 ev).run Tryz.prog ((w.alloc o1).alloc o2) = .ok (.string (strN e)) ((w.alloc o1).alloc o2) := fun o1 o2 => ((he.alloc o1).alloc o2).str Tryz.underlying22 Tryz.underlying5 Tryz.underlying9
  have HDE : Hid (strN d = strN e ↔ d = e) := Lib.hid ⟨fun h => strN_inj hd.lt he.lt h, fun h => by rw [h]⟩
  obtain ⟨am, cm, rfl, _⟩ := hm.shape
  obtain ⟨an, cn, rfl, _⟩ := hn.shape
  have HMC := Lib.hid hm.cells.2.2
  have HNC := Lib.hid hn.cells.2.2
  obtain ⟨dsh, dshape⟩ : ∃ x : Option Addr × Nat, dv = .slice x.1 d.length x.2 := by obtain ⟨a, c, h, _⟩ := hd.shape; exact ⟨(a, c), h⟩
  obtain ⟨esh, eshape⟩ : ∃ x : Option Addr × Nat, ev = .slice x.1 e.length x.2 := by obtain ⟨a, c, h, _⟩ := he.shape; exact ⟨(a, c), h⟩
  subst dshape eshape
  clear hm hn hd he
  by_cases q1 : i = j
  · have b1 : (i != j) = false := by simp [q1]
    by_cases q2 : t = u
    · have b2 : (t != u) = false := by simp [q2]
      by_cases q3 : ms.length = ns.length
      · have b3 : ((ms.length : Int) != (ns.length : Int)) = false := by rw [q3]; simp
        by_cases q4 : d = e
        · have b4 : ((strN d).toList == (strN e).toList) = true := str_eq_of (HDE.out.2 q4)
          have HQ : Hid ((SnapS.mk i t ms d).same (SnapS.mk j u ns e) ↔ ms = ns) := Lib.hid ⟨fun h => h.2.2.1, fun h => ⟨q1, q2, h, q4⟩⟩
          have Q3 := Lib.hid q3
          clear q1 q2 q3 q4 HDE
          go_enter Tryz.func15, Tryz.ntmps15
          go_wp2_with fail
          generalize hW : World.alloc (World.alloc w _) _ = W
          have BW : Hid (Below w.heap.size w W) := Lib.hid (by subst hW; exact ((Below.refl _ _).alloc (Nat.le_refl _) _).alloc (by simp) _)
          have a2 : W.cell? ⟨w.heap.size, 2, none⟩ = some (.slice am ms.length cm) := by subst hW; go_cell
          have a3 : W.cell? ⟨w.heap.size + 1, 2, none⟩ = some (.slice an ns.length cn) := by subst hW; go_cell
          have sW : w.heap.size + 1 < W.heap.size := by subst hW; simp
          have A2 := Lib.hid a2
          have A3 := Lib.hid a3
          clear hW a2 a3 c1 c2 b1 b2 b3 b4
          go_loopw [5] (fun x wr => ∃ k : Nat, k ≤ ms.length ∧ x = .int .i64 k ∧ ms.take k = ns.take k ∧ Below W.heap.size W wr) (fun x _ => ms.length - (intOf x).toNat)
          case atStart => exact ⟨0, Nat.zero_le _, rfl, by simp, Below.refl _ _⟩
          case round =>
            obtain ⟨k, hk, rfl, htk, hbl⟩ := hrel
            have HTK := Lib.hid htk
            have HB := Lib.hid hbl
            have a2 := Below.at HB.out A2.out (show w.heap.size < W.heap.size by omega)
            have a3 := Below.at HB.out A3.out sW
            clear htk hbl
            by_cases hlt : k < ms.length
            · have hlt2 : k < ns.length := by have := Q3.out; omega
              obtain ⟨b1, o1, rfl, h1⟩ := HMC.out k hlt
              obtain ⟨b2, o2, rfl, h2⟩ := HNC.out k hlt2
              have g1 := Below.at HB.out (Below.at BW.out h1 (World.block_lt_of_cell? _ _ h1)) (Nat.lt_of_lt_of_le (World.block_lt_of_cell? _ _ h1) BW.out.size)
              have g2 := Below.at HB.out (Below.at BW.out h2 (World.block_lt_of_cell? _ _ h2)) (Nat.lt_of_lt_of_le (World.block_lt_of_cell? _ _ h2) BW.out.size)
              have k1 : (k : Int) < (ms.length : Int) := by omega
              have k2 : (k : Int) < (ns.length : Int) := by omega
              have k0 : (0 : Int) ≤ (k : Int) := by omega
              have HTS : Hid (ms.take (k + 1) = ms.take k ++ [ms[k]] ∧ ns.take (k + 1) = ns.take k ++ [ns[k]]) := Lib.hid ⟨List.take_succ_eq_append_getElem hlt, List.take_succ_eq_append_getElem hlt2⟩
              have HG : Hid (ms = ns → ms[k] = ns[k]) := Lib.hid fun h => by subst h; rfl
              clear h1 h2
              generalize ms[k] = x at g1 HTS HG
              generalize ns[k] = y at g2 HTS HG
              by_cases hxy : x = y
              · have bx : (x != y) = false := by simp [hxy]
                have HXY := Lib.hid hxy
                clear hxy
                go_wp2_with fail
                go_quiet (fail)
                go_wp2_with fail
                go_roundw
                case rel => exact ⟨k + 1, by omega, by go_num, by rw [HTS.out.1, HTS.out.2, HTK.out, HXY.out], HB.out.trans ((Below.drewN _ _).mono HB.out.size)⟩
                case measure => simp [intOf]; omega
              · have bx : (x != y) = true := by simp [hxy]
                have HV : Hid ((SnapS.mk i t ms d).sameB (SnapS.mk j u ns e) = false) := Lib.hid (decide_eq_false fun h => hxy (HG.out (HQ.out.1 h)))
                clear hxy
                go_wp2_with fail
                go_quiet (fail)
                go_wp2_with fail
                go_ret
                exact ⟨by rw [HV.out]; rfl, BW.out.trans ((HB.out.trans ((Below.drewN _ _).mono HB.out.size)).mono BW.out.size)⟩
            · obtain rfl : k = ms.length := by omega
              have HV : Hid ((SnapS.mk i t ms d).sameB (SnapS.mk j u ns e) = true) := Lib.hid (decide_eq_true (HQ.out.2 (by have := HTK.out; rw [List.take_length, Q3.out, List.take_length] at this; exact this)))
              go_wp2_with fail
              go_ret
              exact ⟨by rw [HV.out]; rfl, BW.out.trans (HB.out.mono BW.out.size)⟩
        · have b4 : ((strN d).toList == (strN e).toList) = false := str_ne fun h => q4 (HDE.out.1 h)
          have HV : Hid ((SnapS.mk i t ms d).sameB (SnapS.mk j u ns e) = false) := Lib.hid (decide_eq_false fun h => q4 h.2.2.2)
          rw [HV.out]
          clear q1 q2 q3 q4 HDE
          go_enter Tryz.func15, Tryz.ntmps15
          go_wp2_with fail
          go_ret
          exact ⟨rfl, ((Below.refl _ _).alloc (Nat.le_refl _) _).alloc (by simp) _⟩
      · have b3 : ((ms.length : Int) != (ns.length : Int)) = true := by simp; omega
        have HV : Hid ((SnapS.mk i t ms d).sameB (SnapS.mk j u ns e) = false) := Lib.hid (decide_eq_false fun h => q3 (by have := h.2.2.1; simp only at this; rw [this]))
        rw [HV.out]
        clear q1 q2 q3 HDE
        go_enter Tryz.func15, Tryz.ntmps15
        go_wp2_with fail
        go_ret
        exact ⟨rfl, ((Below.refl _ _).alloc (Nat.le_refl _) _).alloc (by simp) _⟩
    · have b2 : (t != u) = true := by simp [q2]
      have HV : Hid ((SnapS.mk i t ms d).sameB (SnapS.mk j u ns e) = false) := Lib.hid (decide_eq_false fun h => q2 h.2.1)
      rw [HV.out]
      clear q1 q2 HDE
      go_enter Tryz.func15, Tryz.ntmps15
      go_wp2_with fail
      go_ret
      exact ⟨rfl, ((Below.refl _ _).alloc (Nat.le_refl _) _).alloc (by simp) _⟩
  · have b1 : (i != j) = true := by simp [q1]
    have HV : Hid ((SnapS.mk i t ms d).sameB (SnapS.mk j u ns e) = false) := Lib.hid (decide_eq_false fun h => q1 h.1)
    rw [HV.out]
    clear q1 HDE
    go_enter Tryz.func15, Tryz.ntmps15
    go_wp2_with fail
    go_ret
    exact ⟨rfl, ((Below.refl _ _).alloc (Nat.le_refl _) _).alloc (by simp) _⟩
end Go.Proofs.YtofhccpagnkalaaGreat
