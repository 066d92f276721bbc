/- Several texts in one: Iter, Close, Rb, Nam, Row, Torn, Crash, Opn. What each proves stands ahead of it. -/
import Derived.Shelf.SlGeneric
import Derived.Shelf.SlIter.Nil
import Derived.Shelf.SortM.Plain
import Derived.Shelf.SortM.SortNone
import Derived.Ground.GgzProg
import Derived.Ground.SlgmProg
import Derived.Test.YtofhccpagnkalaaGreatProg
import Derived.WalkKit
import Derived.ProofKit
import Derived.OpenShut
import Derived.SizedLaws
import Derived.Carry
import Derived.Deep.Slices
import Derived.Deep.Fields
import Derived.ChangeSame
import Derived.Test.YtofhccpagnkalaaGreatSb
import Derived.Lib.AppendStr
import Derived.Test.YtofhccpagnkalaaGreatDany
import Derived.Sort.KeysCollected
import Derived.Test.YtofhccpagnkalaaGreatStr
import Derived.Test.YtofhccpagnkalaaGreatBunVa
import Derived.OneCell
import Derived.Test.YtofhccpagnkalaaGreatSnp
/-
  DERIVED: THE SHELF's CONTRACTS AT THIS DUMP, IN PLAIN WORDS (tools/lay-plain.mjs out of 'YtofhccpagnkalaaGreatIterS.lean', which tools/lay-shelf.mjs wrote): THE SAME DECLARATIONS UNDER THE SAME NAMES: 'import', 'namespace', 'open', 'def', 'theorem' AND NOTHING ELSE: no command of the shelf's: FOR A HAND-IN. Each laying: the table of numbers ('.._ren') and one theorem, a field a fact of the dump's own or the kernel's comparison; each contract: ONE APPLICATION.
-/
namespace Go.Proofs
open Go.Shelf
def Tryz.keys128_ren : Go.Shelf.Ren := ⟨fun | 7 => 128 | 10 => 148 | n => n, fun | 23 => 81 | 26 => 9 | 3 => 87 | 28 => 205 | 0 => 0 | 27 => 204 | 33 => 90 | 4 => 4 | n => n, fun | n => n⟩
theorem Tryz.keys128 : Go.Proofs.SlLaysZ.n7 Tryz.prog Tryz.keys128_ren := {
  mixed := by kernel_rfl
  f7 := ⟨Tryz.f128.name, by decide, Tryz.func128.trans (congrArg some (by kernel_rfl))⟩
  f10 := ⟨Tryz.f148.name, by decide, Tryz.func148.trans (congrArg some (by kernel_rfl))⟩
  t0 := Tryz.underlying0
  a0 := Tryz.isAgg0
  z0 := Tryz.sizeOf0
  v0 := Tryz.zeroValue0
  t4 := Tryz.underlying4
  a4 := Tryz.isAgg4
  z4 := Tryz.sizeOf4
  v4 := Tryz.zeroValue4
  t23 := Tryz.underlying81
  a23 := Tryz.isAgg81
  z23 := Tryz.sizeOf81
  v23 := Tryz.zeroValue81
  t26 := Tryz.underlying9
  a26 := Tryz.isAgg9
  z26 := Tryz.sizeOf9
  v26 := Tryz.zeroValue9
  t27 := Tryz.underlying204
  a27 := Tryz.isAgg204
  z27 := Tryz.sizeOf204
  v27 := Tryz.zeroValue204
  t28 := Tryz.underlying205
  a28 := Tryz.isAgg205
  z28 := Tryz.sizeOf205
  v28 := Tryz.zeroValue205
  t33 := Tryz.underlying90
  a33 := Tryz.isAgg90
  z33 := Tryz.sizeOf90
  v33 := Tryz.zeroValue90 }
def Tryz.sorted127_ren : Go.Shelf.Ren := ⟨fun | 6 => 127 | 8 => 146 | 9 => 147 | 11 => 155 | 13 => 157 | 12 => 156 | 23 => 169 | 24 => 170 | 14 => 160 | 15 => 161 | 16 => 162 | 17 => 163 | 18 => 164 | 19 => 165 | 20 => 166 | 21 => 167 | 22 => 168 | 25 => 172 | 26 => 173 | 27 => 174 | 28 => 175 | 29 => 176 | 30 => 177 | 31 => 178 | n => n, fun | 26 => 9 | 28 => 205 | 24 => 160 | 0 => 0 | 3 => 3 | 37 => 213 | 48 => 167 | 50 => 27 | 4 => 4 | 40 => 240 | 39 => 239 | 45 => 245 | 5 => 5 | 9 => 9 | 51 => 249 | 55 => 252 | 57 => 254 | 58 => 255 | 33 => 90 | n => n, fun | n => n⟩
theorem Tryz.sorted127 : Go.Proofs.SlLaysZ.n6 Tryz.prog Tryz.sorted127_ren := {
  mixed := by kernel_rfl
  f6 := ⟨Tryz.f127.name, by decide, Tryz.func127.trans (congrArg some (by kernel_rfl))⟩
  f8 := ⟨Tryz.f146.name, by decide, Tryz.func146.trans (congrArg some (by kernel_rfl))⟩
  f11 := ⟨Tryz.f155.name, by decide, Tryz.func155.trans (congrArg some (by kernel_rfl))⟩
  t0 := Tryz.underlying0
  a0 := Tryz.isAgg0
  z0 := Tryz.sizeOf0
  v0 := Tryz.zeroValue0
  t24 := Tryz.underlying160
  a24 := Tryz.isAgg160
  z24 := Tryz.sizeOf160
  v24 := Tryz.zeroValue160
  t26 := Tryz.underlying9
  a26 := Tryz.isAgg9
  z26 := Tryz.sizeOf9
  v26 := Tryz.zeroValue9
  t28 := Tryz.underlying205
  a28 := Tryz.isAgg205
  z28 := Tryz.sizeOf205
  v28 := Tryz.zeroValue205
  i26 := by kernel_rfl }
def Tryz.sort147_ren : Go.Shelf.Ren := ⟨fun | 6 => 147 | 8 => 157 | 9 => 156 | 19 => 169 | 20 => 170 | 21 => 160 | 22 => 161 | 23 => 162 | 24 => 163 | 25 => 164 | 26 => 165 | 27 => 166 | 28 => 167 | 29 => 168 | 36 => 172 | 31 => 173 | 32 => 174 | 37 => 175 | 38 => 176 | 39 => 177 | 41 => 178 | n => n, fun | 27 => 160 | 29 => 9 | 3 => 3 | 32 => 213 | 26 => 160 | 0 => 0 | 44 => 167 | 46 => 27 | 4 => 4 | 36 => 240 | 35 => 239 | 41 => 245 | 5 => 5 | 9 => 9 | 53 => 249 | 57 => 252 | 63 => 254 | 64 => 255 | n => n, fun | n => n⟩
theorem Tryz.sort147 : Go.Proofs.SlLaysM.n6 Tryz.prog Tryz.sort147_ren := {
  mixed := by kernel_rfl
  f6 := ⟨Tryz.f147.name, by decide, Tryz.func147.trans (congrArg some (by kernel_rfl))⟩
  f8 := Tryz.func157.trans (congrArg some (by kernel_rfl))
  f9 := ⟨Tryz.f156.name, by decide, Tryz.func156.trans (congrArg some (by kernel_rfl))⟩
  f19 := Tryz.func169.trans (congrArg some (by kernel_rfl))
  f20 := Tryz.func170.trans (congrArg some (by kernel_rfl))
  f21 := ⟨Tryz.f160.name, by decide, Tryz.func160.trans (congrArg some (by kernel_rfl))⟩
  f22 := ⟨Tryz.f161.name, by decide, Tryz.func161.trans (congrArg some (by kernel_rfl))⟩
  f23 := ⟨Tryz.f162.name, by decide, Tryz.func162.trans (congrArg some (by kernel_rfl))⟩
  f24 := ⟨Tryz.f163.name, by decide, Tryz.func163.trans (congrArg some (by kernel_rfl))⟩
  f25 := ⟨Tryz.f164.name, by decide, Tryz.func164.trans (congrArg some (by kernel_rfl))⟩
  f26 := ⟨Tryz.f165.name, by decide, Tryz.func165.trans (congrArg some (by kernel_rfl))⟩
  f27 := ⟨Tryz.f166.name, by decide, Tryz.func166.trans (congrArg some (by kernel_rfl))⟩
  f28 := ⟨Tryz.f167.name, by decide, Tryz.func167.trans (congrArg some (by kernel_rfl))⟩
  f29 := ⟨Tryz.f168.name, by decide, Tryz.func168.trans (congrArg some (by kernel_rfl))⟩
  f31 := Tryz.func173.trans (congrArg some (by kernel_rfl))
  f32 := Tryz.func174.trans (congrArg some (by kernel_rfl))
  f36 := ⟨Tryz.f172.name, by decide, Tryz.func172.trans (congrArg some (by kernel_rfl))⟩
  f37 := ⟨Tryz.f175.name, by decide, Tryz.func175.trans (congrArg some (by kernel_rfl))⟩
  f38 := ⟨Tryz.f176.name, by decide, Tryz.func176.trans (congrArg some (by kernel_rfl))⟩
  f39 := ⟨Tryz.f177.name, by decide, Tryz.func177.trans (congrArg some (by kernel_rfl))⟩
  f41 := ⟨Tryz.f178.name, by decide, Tryz.func178.trans (congrArg some (by kernel_rfl))⟩
  t0 := Tryz.underlying0
  a0 := Tryz.isAgg0
  z0 := Tryz.sizeOf0
  v0 := Tryz.zeroValue0
  t3 := Tryz.underlying3
  a3 := Tryz.isAgg3
  z3 := Tryz.sizeOf3
  v3 := Tryz.zeroValue3
  t4 := Tryz.underlying4
  a4 := Tryz.isAgg4
  z4 := Tryz.sizeOf4
  v4 := Tryz.zeroValue4
  t5 := Tryz.underlying5
  a5 := Tryz.isAgg5
  z5 := Tryz.sizeOf5
  v5 := Tryz.zeroValue5
  t9 := Tryz.underlying9
  a9 := Tryz.isAgg9
  z9 := Tryz.sizeOf9
  v9 := Tryz.zeroValue9
  t26 := Tryz.underlying160
  a26 := Tryz.isAgg160
  z26 := Tryz.sizeOf160
  v26 := Tryz.zeroValue160
  t27 := Tryz.underlying160
  a27 := Tryz.isAgg160
  z27 := Tryz.sizeOf160
  v27 := Tryz.zeroValue160
  t29 := Tryz.underlying9
  a29 := Tryz.isAgg9
  z29 := Tryz.sizeOf9
  v29 := Tryz.zeroValue9
  t32 := Tryz.underlying213
  a32 := Tryz.isAgg213
  z32 := Tryz.sizeOf213
  v32 := Tryz.zeroValue213
  t35 := Tryz.underlying239
  a35 := Tryz.isAgg239
  z35 := Tryz.sizeOf239
  v35 := Tryz.zeroValue239
  t36 := Tryz.underlying240
  a36 := Tryz.isAgg240
  z36 := Tryz.sizeOf240
  v36 := Tryz.zeroValue240
  t41 := Tryz.underlying245
  a41 := Tryz.isAgg245
  z41 := Tryz.sizeOf245
  v41 := Tryz.zeroValue245
  t44 := Tryz.underlying167
  a44 := Tryz.isAgg167
  z44 := Tryz.sizeOf167
  v44 := Tryz.zeroValue167
  t46 := Tryz.underlying27
  a46 := Tryz.isAgg27
  z46 := Tryz.sizeOf27
  v46 := Tryz.zeroValue27
  t53 := Tryz.underlying249
  a53 := Tryz.isAgg249
  z53 := Tryz.sizeOf249
  v53 := Tryz.zeroValue249
  t57 := Tryz.underlying252
  a57 := Tryz.isAgg252
  z57 := Tryz.sizeOf252
  v57 := Tryz.zeroValue252
  t63 := Tryz.underlying254
  a63 := Tryz.isAgg254
  z63 := Tryz.sizeOf254
  v63 := Tryz.zeroValue254
  t64 := Tryz.underlying255
  a64 := Tryz.isAgg255
  z64 := Tryz.sizeOf255
  v64 := Tryz.zeroValue255 }
set_option maxHeartbeats 1000000 in
open Go.RowKit Go.Maps Go.Sort in
theorem Tryz.sorts127 (m : Nat) : AnyZ.SortsIn Tryz.prog Tryz.sorted127_ren Fence.wide m :=
  ⟨fun blk off cap ss W hH hblk hsz => callsIn_wide.2 (AnyM.slices_Sort_string Tryz.sort147 blk off cap ss W hH hblk hsz),
   fun p cap W => callsIn_wide.2 (AnyM.slices_Sort_string_none Tryz.sort147 p cap W)⟩
set_option maxHeartbeats 1000000 in
open Go.RowKit Go.Maps Go.Sort in
theorem Tryz.maps_Keys_128 (mb : Option Nat) (W : World) : CallsIn Fence.wide 5 Tryz.prog 128 #[.map mb] W fun e w' => e = .returned (.func (.func 148) #[] #[.pointer (some ⟨W.heap.size, 0, none⟩)]) ∧ w' = W.alloc (.cells #[.map mb] 81) :=
  AnyZ.keys_in Tryz.keys128 Fence.wide 5 trivial rfl mb W
set_option maxHeartbeats 1000000 in
open Go.RowKit Go.Maps Go.Sort in
theorem Tryz.slices_Sorted_keys_127_128 {H : Type} (b nn : Nat) (D0 : DataW H) (R : Value → Option (DataW H × List MemPlace)) (w : World) (hown : w.ownsMap Tryz.prog 9 R b nn D0) (hmax : Maps.size D0 ≤ maxLen) (hbytes : Maps.size D0 * 16 ≤ 140737488355328) :
    CallsIn Fence.wide 5 Tryz.prog 127 #[.func (.func 148) #[] #[.pointer (some ⟨w.heap.size, 0, none⟩)]] (w.alloc (.cells #[.map (some b)] 81)) fun e w' => ∃ (v : Value) (ss : List (List UInt8)), e = .returned v ∧ ss.Perm (strKeys D0) ∧
      w'.ownsRow (w.alloc (.cells #[.map (some b)] 81)).heap.size 9 1 v ss.length ((ss.mergeSort (fun x y => decide (x ≤ y))).map encStr) ∧ (v = .slice none 0 0 ↔ ss = []) ∧ Below (w.alloc (.cells #[.map (some b)] 81)).heap.size (w.alloc (.cells #[.map (some b)] 81)) w' := by
  have hbl := hown.lt
  have hseq : SeqGives Fence.wide 2 Tryz.prog 148 #[.pointer (some ⟨w.heap.size, 0, none⟩)] encStr (fun ss => ss.Perm (strKeys D0)) (Maps.size D0) (w.alloc (.cells #[.map (some b)] 81)) :=
    AnyZ.keys_gives (ρ := Tryz.keys128_ren) { Tryz.keys128 with } Fence.wide _ trivial rfl (by omega) w.heap.size b nn D0 _ (by simp) (by simp) (by
      obtain ⟨es, clock, hb, Ft, hs, hD⟩ := hown
      exact ⟨es, clock, (Below.heap_alloc _ _ b hbl).trans hb, Ft, hs, hD⟩)
  exact AnyZ.sorted_in Tryz.sorted127 Fence.wide 5 trivial trivial trivial trivial rfl (by omega) (Tryz.sorts127 _) (enters_of Tryz.func147 (by kernel_rfl) rfl) 148 #[.pointer (some ⟨w.heap.size, 0, none⟩)] trivial (enters_of Tryz.func148 (by kernel_rfl) rfl) _ _ hmax hbytes _ hseq
set_option maxHeartbeats 1000000 in
open Go.RowKit Go.Maps Go.Sort in
theorem Tryz.slices_Sorted_keys_nil_127_128 (w : World) :
    CallsIn Fence.wide 5 Tryz.prog 127 #[.func (.func 148) #[] #[.pointer (some ⟨w.heap.size, 0, none⟩)]] (w.alloc (.cells #[.map none] 81)) fun e w' => ∃ (v : Value) (ss : List (List UInt8)), e = .returned v ∧ ss = [] ∧
      w'.ownsRow (w.alloc (.cells #[.map none] 81)).heap.size 9 1 v ss.length ((ss.mergeSort (fun x y => decide (x ≤ y))).map encStr) ∧ (v = .slice none 0 0 ↔ ss = []) ∧ Below (w.alloc (.cells #[.map none] 81)).heap.size (w.alloc (.cells #[.map none] 81)) w' := by
  have hseq : SeqGives Fence.wide 2 Tryz.prog 148 #[.pointer (some ⟨w.heap.size, 0, none⟩)] encStr (fun ss : List (List UInt8) => ss = []) 0 (w.alloc (.cells #[.map none] 81)) :=
    AnyZ.keys_gives_nil (ρ := Tryz.keys128_ren) { Tryz.keys128 with } Fence.wide _ trivial rfl w.heap.size _ (by simp) (by simp)
  exact AnyZ.sorted_in Tryz.sorted127 Fence.wide 5 trivial trivial trivial trivial rfl (by omega) (Tryz.sorts127 _) (enters_of Tryz.func147 (by kernel_rfl) rfl) 148 #[.pointer (some ⟨w.heap.size, 0, none⟩)] trivial (enters_of Tryz.func148 (by kernel_rfl) rfl) _ 0 (Nat.zero_le _) (by omega) _ hseq
end Go.Proofs

/- From a law's contract to its row's statement, whatever the parameters: over any program; no conditions. -/
namespace Go.Proofs.Own
open Go Go.ChangeShapes Go.WideShapes Go.ChangeAt Go.RowKit Go.Deep

section
variable {H : Type} {enc : TypeId × Value → H} {P : Program}

/-- What the arguments read as, they read as behind a call that only makes memory. -/
theorem trodAll_below (hl : laidOutB P = true) {W W' : World} (hb : Below W.heap.size W W') : ∀ (ts : List TypeId) (vs : List Value) (ds : List (DataW H)) (ps : List MemPlace),
    (ts.all fun t => P.readableRec t && decide (t < P.types.size)) = true → DataW.TrodAll enc P W 0 (fun _ => true) true ts vs ds ps → (∀ x ∈ ps, x.block < W.heap.size) →
    DataW.TrodAll enc P W' 0 (fun b => decide (b < W.heap.size)) true ts vs ds ps
  | [], vs, ds, ps, _, h, _ => by
    obtain ⟨rfl, rfl, rfl⟩ := trodAll_nil h
    exact trodAll_mk0
  | t :: ts, vs, ds, ps, hr, h, hlt => by
    simp only [List.all_cons, Bool.and_eq_true, decide_eq_true_eq] at hr
    obtain ⟨⟨h1, h2⟩, h3⟩ := hr
    obtain ⟨v, vs', d, ds', p, q, rfl, rfl, rfl, h4, h5⟩ := trodAll_cons h
    exact trodAll_cons_mk (Below.trod hl h1 h2 h4 hb fun x hx => hlt x (List.mem_append_left _ hx)) (trodAll_below hl hb ts vs' ds' q (by simpa using h3) h5 fun x hx => hlt x (List.mem_append_right _ hx))

/-- A LAW's POST, from 'it returned true and only made memory'. -/
theorem law_post {f : Func} {s : ChangeSpec} (hl : laidOutB P = true) (hr : (f.params.toList.all fun t => P.readableRec t && decide (t < P.types.size)) = true) (hrt : ∃ tb, f.resultTypes = #[tb] ∧ P.underlying tb = some .bool) (hvars : s.vars = [])
    (hs : ∀ ds : List (DataW H), ds.length = f.params.size → s.fn H ds = { results := [.lit (.bool true)], args := ds, vars := [] }) {W W' : World} {args : Array Value} {ds gs : List (DataW H)} {before : List MemPlace}
    (hW : DataW.Whole enc P f.params.toList s.vars false W args.toList ds gs before) (hb : Below W.heap.size W W') : s.post enc P f false true false false W args (.bool true) W' := by
  have hW' := hW
  have hlt : ∀ p ∈ before, p.block < W.heap.size := fun p hp => hW.lt p hp
  obtain ⟨p, q, hA, hV, hbe, hfz, _⟩ := hW
  rw [hvars] at hV
  obtain ⟨rfl, rfl⟩ := trodVars_none hV
  have hlen : ∀ (ts : List TypeId) (vs : List Value) (ds : List (DataW H)) (ps : List MemPlace), DataW.TrodAll enc P W 0 (fun _ => true) true ts vs ds ps → ds.length = ts.length := by
    intro ts
    induction ts with
    | nil => intro vs ds ps h; obtain ⟨_, rfl, _⟩ := trodAll_nil h; rfl
    | cons t ts ih => intro vs ds ps h; obtain ⟨_, vs', _, ds', _, q', _, rfl, _, _, h5⟩ := trodAll_cons h; simp [ih vs' ds' q' h5]
  have hfn := hs ds (by rw [hlen _ _ _ _ hA]; simp)
  obtain ⟨tb, hrt, hub⟩ := hrt
  refine ⟨ds, [], before, [], p, [], hW', ?_, ?_, ?_, hb.frame _, fun h => by cases h⟩
  · rw [List.append_nil, hfn, hrt]
    exact trodAll_cons_mk (shut_bool hub true) trodAll_mk0
  · rw [List.append_nil, hfn]
    exact trodAll_below hl hb _ _ _ _ hr hA fun x hx => hlt x (by rw [hbe]; exact List.mem_append_left _ hx)
  · rw [List.append_nil, hfn, hvars]
    rfl
end

section
variable {H : Type} {enc : TypeId × Value → H} {P : Program} {w : World} {base : Nat} {spare : Nat → Bool} {held : Bool}
theorem open_slice_fields {t e : TypeId} {fs : Array Field} {fuel : Nat} {cs : List Value} {x : DataW H × List MemPlace} (ht : P.underlying t = some (.slice e)) (he : P.underlying e = some (.struct fs))
    (hone : oneCellFields P fs = true) (hC : P.cellsOf e = fs.size) (h : DataW.trod enc P w base spare held fuel t cs = some x) :
    (cs = [.slice none 0 0] ∧ x = (.nil, [])) ∨
    ∃ (a : Addr) (len cap m : Nat) (D : Nat → DataW H) (Pl : Nat → List MemPlace), cs = [.slice (some a) len cap] ∧ base ≤ a.block ∧ len ≤ cap ∧ cap ≤ maxLen ∧ m = (if spare a.block then cap else len) ∧
      x = (.slice ((List.range len).map D) ((List.range (m - len)).map fun j => D (len + j)), MemPlace.row a (m * fs.size) ++ (List.range m).flatMap Pl) ∧
      ∀ i, i < m → ∃ (ys : List (DataW H × List MemPlace)) (n : Nat), D i = .agg (ys.map (·.1)) ∧ Pl i = ys.flatMap (·.2) ∧ ys.length = fs.size ∧
        ∀ (j : Nat) (f : Field), fs[j]? = some f → ∃ (v : Value) (y : DataW H × List MemPlace), w.cell? (a.add (i * fs.size + j)) = some v ∧ ys[j]? = some y ∧ DataW.trod enc P w base spare held n f.type [v] = some y := by
  rcases open_slice ht h with h0 | ⟨a, len, cap, m, n, D, Pl, hcs, hb, hl, hm, hmm, hx, hi⟩
  · exact .inl h0
  · refine .inr ⟨a, len, cap, m, D, Pl, hcs, hb, hl, hm, hmm, by rw [hC] at hx; exact hx, fun i him => ?_⟩
    obtain ⟨cs', hc, ht'⟩ := hi i him
    rw [hC] at hc
    obtain ⟨ys, n', hn', hy, hlen, hyl, hf⟩ := DataW.trod_struct he ht'
    obtain ⟨_, hcl, hat⟩ := World.cells?_some hc
    simp only [Prod.mk.injEq] at hy
    refine ⟨ys, n', hy.1, hy.2, hyl, fun j f hj => ?_⟩
    obtain ⟨ho, hk⟩ := hone_of hone j f hj
    have hjl : j < fs.size := (Array.getElem?_eq_some_iff.1 hj).1
    have hcell := hat j hjl
    have hv : cs'[j]? = some (cs'[j]'(by omega)) := List.getElem?_eq_getElem (by omega)
    have h1 := hf j f hj
    rw [ho, hk] at h1
    have hone' : (cs'.drop j).take 1 = [cs'[j]'(by omega)] := by
      rw [List.drop_eq_getElem_cons (by omega)]
      rfl
    rw [hone'] at h1
    have hys : ys[j]? = some (ys[j]'(by omega)) := List.getElem?_eq_getElem (by omega)
    refine ⟨_, _, ?_, hys, h1.trans hys⟩
    rw [← Go.Deep.add_add, hcell, hv]
end

/-- An address at which a cell lies is no inner spot. -/
theorem spot_none {w : World} {a : Addr} {v : Value} (h : w.cell? (a.add 0) = some v) : a = ⟨a.block, a.off, none⟩ := by
  obtain ⟨b, o, s⟩ := a
  cases s with
  | none => rfl
  | some x =>
    simp only [Addr.add, if_true, World.cell?, Option.isSome_some] at h
    split at h <;> simp at h
theorem addr_add (a : Addr) (b o n : Nat) (h : a = ⟨b, o, none⟩) : a.add n = ⟨b, o + n, none⟩ := by
  subst h; exact Addr.add_lit _ _ _
end Go.Proofs.Own

/- The document's Text, and its Body and Bytes of a snapshot; no conditions but the ranges. -/
namespace Go.Proofs.YtofhccpagnkalaaGreat
open Go.RowKit Go.Maps Go.Proofs.Own

theorem strCells_ints (s : ByteArray) : Go.Lib.strCells s = (ints (natsOf s)).map (.int .u8) := by
  unfold Go.Lib.strCells ints natsOf
  rw [List.map_map, List.map_map]
  rfl
theorem shape3 {w : World} {base : Nat} {e : TypeId} {k : IntKind} {v : Value} {zs : List Int} (h : Owns w base e k v zs) : ∃ a n c, v = .slice a n c := let ⟨a, c, h⟩ := h.shape; ⟨a, _, c, h⟩
theorem numsW_nil : numsW [] = [] := rfl
theorem two_lt {n k : Nat} (hn : (n : Int) < 18446744073709551616) (hk : (k : Int) < 18446744073709551616) : ∀ x ∈ [n, k], (x : Int) < 18446744073709551616 := by
  intro x hx
  simp only [List.mem_cons, List.not_mem_nil, or_false] at hx
  rcases hx with h | h
  · rw [h]; exact hn
  · rw [h]; exact hk
theorem ints_app (l m : List Nat) : ints l ++ ints m = ints (l ++ m) := by simp [ints]

set_option maxHeartbeats 1000000 in
set_option maxRecDepth 20000 in
theorem rtextw_any (s : ByteArray) (w : World) (hs : s.size ≤ 65536) :
    Calls Tryz.prog 150 #[.string s] w fun e w' => ∃ v, e = .returned v ∧ Owns w' w.heap.size 5 .u8 v (ints (numW s.size ++ natsOf s)) ∧ Below w.heap.size w w' := by
  have hs' : (s.size : Int) ≤ 65536 := by omega
  have HSZ := Lib.hid hs
  obtain ⟨i5, hi5, hz5, hy5, hw5⟩ : ∃ i, Tryz.prog.info? 5 = some i ∧ i.zero = some (.int .u8 0) ∧ i.size = 1 ∧ i.bytes = 1 := info_parts Tryz.info5
  have HI := Lib.hid (And.intro hi5 (And.intro hz5 (And.intro hy5 hw5)))
  clear hi5 hz5 hy5 hw5 hs
  go_enter Tryz.func150, Tryz.ntmps150
  go_wp2_with fail
  refine (rnumw_any s.size _ (by omega)).mono ?_
  rintro e w1 ⟨v1, rfl, ho1, hb1⟩
  have O1 := Lib.hid ho1
  have B1 := Lib.hid hb1
  have H9 : Hid ((ints (numW s.size)).length ≤ 9) := Lib.hid (by rw [length_ints]; exact numW_len (by omega))
  obtain ⟨p1, k1, rfl⟩ := ho1.shape
  clear ho1 hb1
  generalize hq : (ints (numW s.size)).length = q1 at *
  have HQ := Lib.hid hq
  clear hq
  go_wp2_with (at_builtin; go_loud (refine Go.Lib.wpList_append_own_string _ rfl _ _ 22 9 rfl w.heap.size 5 i5 Tryz.underlying22 Tryz.underlying9 HI.out.1 HI.out.2.1 HI.out.2.2.1 HI.out.2.2.2 _ _ _ rfl O1.out s rfl (by rw [HQ.out]; have := H9.out; have := HSZ.out; unfold maxLen; omega) (by rw [HQ.out]; have := H9.out; have := HSZ.out; omega) B1.out.size ?_; intro v2 w2 hown2 hgr2 hnil2; have O2 := Lib.hid hown2; have G2 := Lib.hid hgr2; clear hown2 hgr2 hnil2))
  go_ret
  refine ⟨v2, rfl, ?_, B1.out.trans ((Below.refl _ _).grown G2.out B1.out.size fun g hg => (Owns.lt O1.out g hg).1)⟩
  have h := O2.out
  rw [strCells_ints, ← List.map_append, ints_app] at h
  have hl : (ints (numW s.size)).length + s.size = (ints (numW s.size ++ natsOf s)).length := by rw [length_ints, length_ints, List.length_append, length_natsOf]
  rw [hl] at h
  exact h

set_option maxHeartbeats 4000000 in
set_option maxRecDepth 20000 in
theorem rbody_any (v : Value) (s : SnapS) (w : World) (h : SnapIs w v s) (hok : s.ok) :
    Calls Tryz.prog 137 #[v] w fun e w' => ∃ v', e = .returned v' ∧ Bytes w' v' (snapW s) ∧ Below w.heap.size w w' := by
  obtain ⟨mv, dv, rfl, hm, hd⟩ := h
  obtain ⟨a, c, rfl, _⟩ := hd.shape
  obtain ⟨am, cm, rfl, _⟩ := hm.shape
  obtain ⟨i, t, ms, d⟩ := s
  have HM := Lib.hid hm
  have HD := Lib.hid hd
  obtain ⟨n, hn⟩ : ∃ n : Nat, i = n := ⟨i.toNat, by have := hok.1; simp only at this; omega⟩
  obtain ⟨k, hk⟩ : ∃ n : Nat, t = n := ⟨t.toNat, by have := hok.2.2.1; simp only at this; omega⟩
  obtain ⟨_, hi2, _, ht2, hmo, hdl⟩ := hok
  simp only at hi2 ht2 hmo hdl
  have HI : Hid ((n : Int) < 18446744073709551616) := Lib.hid (by rw [← hn]; exact Int.lt_trans hi2 (by decide))
  have HT : Hid ((k : Int) < 18446744073709551616) := Lib.hid (by rw [← hk]; exact Int.lt_of_le_of_lt ht2 (by decide))
  have HMO := Lib.hid hmo
  have hml : ms.length ≤ 7 := hmo.2.1
  have hdl' : (d.length : Int) ≤ 32768 := by omega
  clear hm hd hi2 ht2 hmo
  subst hn hk
  have HIA : Hid (ints (numW n) ++ ints (numW k) = ints (numsW [n, k])) := Lib.hid (by rw [ints_app]; simp [numsW])
  have HNK : Hid ((ints (numW n)).length + (ints (numW k)).length ≤ 4294967296) := Lib.hid (by
    have h1 := numW_len HI.out
    have h2 := numW_len HT.out
    rw [length_ints, length_ints]; omega)
  have HSW : Hid (numsW [n, k] ++ numW ms.length ++ numsW (ms.map Int.toNat) ++ (numW d.length ++ d) = snapW ⟨n, k, ms, d⟩) := Lib.hid (by
    unfold snapW numsW
    simp)
  have HL2 : Hid ((numsW [n, k]).length ≤ 18) := Lib.hid (by have := numsW_len [n, k] (two_lt HI.out HT.out); simpa using this)
  have HLM : Hid (∀ j, (numsW ((ms.take j).map Int.toNat)).length ≤ 63) := Lib.hid (memsW_len HMO.out)
  have HLN : Hid ((numW ms.length).length ≤ 9) := Lib.hid (numW_len (by omega))
  go_enter Tryz.func137, Tryz.ntmps137
  go_wp2_with fail
  have SG1 := SBlk.box w n k (.slice am ms.length cm) (.slice a d.length c)
  have B1 : Hid (Below w.heap.size w (w.alloc (.cells #[.int .u64 n, .int .u64 k, .slice am ms.length cm, .slice a d.length c] 40))) := Lib.hid ((Below.refl _ _).alloc (Nat.le_refl _) _)
  generalize World.alloc w _ = w1 at *
  have S1 := Lib.hid SG1
  have ST := Stable.from w1
  have hlw := SG1.lt
  clear SG1
  refine region_start [0, 1, 3, 0, 8, 31, 63, 127] 4 (fun w' => Below w1.heap.size w1 w') (by kernel_rfl) ?_
  refine stage_heads [0, 1, 3, 4] (by kernel_rfl) (L := #[true, true, false, true, true, false, false, false]) (by kernel_rfl) (f' := 4) rfl (fun _ _ _ _ h => h) (fun w o h => ST.alloc h o) (.inr (by first | exact Below.refl _ _ | exact (Below.refl _ _).drew)) ?_
  simp only [List.flatMap_cons, List.flatMap_nil, List.drop_succ_cons, List.drop_zero, List.take_succ_cons, List.take_zero, List.cons_append, List.nil_append, List.append_nil]
  iterate 4 (first | (refine heads_load _ (by rfl) (fun w' hs => by have y0 := S1.out.below hs; obtain ⟨r0, r1, r2, r3, _, _, _, _⟩ := y0; go_simp; try with_reducible rfl) rfl ?_; simp only [Act.put, List.setIfInBounds_toArray, List.set_cons_zero, List.set_cons_succ]) | (refine heads_pure _ (by rfl) (fun w' => by go_simp; try with_reducible rfl) ?_; simp only [Act.put, List.setIfInBounds_toArray, List.set_cons_zero, List.set_cons_succ]))
  refine heads_nil ?_
  refine stage_op 2 (by kernel_rfl) (L := #[true, true, true, true, true, false, false, false]) (by kernel_rfl) ?_
  simp only [List.drop_succ_cons, List.drop_zero, List.take_succ_cons, List.take_zero]
  go_wp2_with fail; refine (rnumw_any n _ HI.out).mono ?_; rintro e u2 ⟨x2, rfl, ho2, hb2⟩; obtain ⟨p2, q2, k2, rfl⟩ := shape3 ho2; have O2 : Hid (Owns u2 w1.heap.size 5 .u8 (.slice p2 q2 k2) (ints (numW n))) := Lib.hid ho2; have I2 : Hid (Below w1.heap.size w1 u2) := Lib.hid (by first | exact hb2 | exact ((Below.refl _ _).drew).trans hb2); clear ho2 hb2; go_wp2_with fail
  refine step_post (fun _ => I2.out) ?_
  refine stage_op 5 (by kernel_rfl) (L := #[true, true, true, true, true, true, false, false]) (by kernel_rfl) ?_
  simp only [List.drop_succ_cons, List.drop_zero, List.take_succ_cons, List.take_zero]
  go_wp2_with fail; refine (rnumw_any k _ HT.out).mono ?_; rintro e u5 ⟨x5, rfl, ho5, hb5⟩; obtain ⟨p5, q5, k5, rfl⟩ := shape3 ho5; have R5 : Hid (Reads u5 .u8 (.slice p5 q5 k5) (ints (numW k))) := Lib.hid ho5.reads; have O5 : Hid (Owns u5 w1.heap.size 5 .u8 (.slice p2 q2 k2) (ints (numW n))) := Lib.hid (O2.out.below (by first | exact hb5 | exact ((Below.refl _ _).drew).trans hb5)); have I5 : Hid (Below w1.heap.size w1 u5) := Lib.hid (I2.out.trans (Below.mono (by first | exact hb5 | exact ((Below.refl _ _).drew).trans hb5) I2.out.size)); clear ho5 hb5; go_wp2_with fail
  refine step_post nofun ?_
  refine stage_op 6 (by kernel_rfl) (L := #[true, true, true, true, true, true, true, false]) (by kernel_rfl) ?_
  simp only [List.drop_succ_cons, List.drop_zero, List.take_succ_cons, List.take_zero]
  refine wpList_append_ints Tryz.u8s _ _ rfl w1.heap.size _ _ (ints (numW n)) (ints (numW k)) rfl rfl O5.out R5.out (by decide) HNK.out I5.out.size rfl ?_; intro v6 w6 hown6 hgr6 hat6 hnil6 hbel6; obtain ⟨p6, q6, k6, rfl⟩ := shape3 hown6; rw [HIA.out] at hown6; have HO6 : Hid (Owns w6 w1.heap.size 5 .u8 (.slice p6 q6 k6) (ints (numsW [n, k]))) := Lib.hid hown6; have B6 : Hid (Below w1.heap.size w1 w6) := Lib.hid (I5.out.trans hbel6); clear hown6 hgr6 hat6 hnil6 hbel6; go_wp2_with fail
  refine step_post nofun ?_
  refine stage_heads [7] (by kernel_rfl) (L := #[true, true, true, true, true, true, true, true]) (by kernel_rfl) (f' := 0) rfl (fun _ _ _ _ h => h) (fun w o h => ST.alloc h o) (.inl (by kernel_rfl)) ?_
  simp only [List.flatMap_cons, List.flatMap_nil, List.drop_succ_cons, List.drop_zero, List.take_succ_cons, List.take_zero, List.append_nil]
  iterate 1 (refine heads_pure _ (by rfl) (fun w' => by go_simp; try with_reducible rfl) ?_; simp only [Act.put, List.setIfInBounds_toArray, List.set_cons_zero, List.set_cons_succ])
  refine heads_nil ?_
  refine stage_done (by kernel_rfl) ?_
  have S6 := Lib.hid (S1.out.below B6.out)
  have r2 := S6.out.c2
  go_wp2_with fail
  refine (rnumw_any ms.length _ (by omega)).mono ?_
  rintro e w7 ⟨v7, rfl, ho7, hb7⟩
  obtain ⟨p7, q7, k7, rfl⟩ := shape3 ho7
  have R7 : Hid (Reads w7 .u8 (.slice p7 q7 k7) (ints (numW ms.length))) := Lib.hid ho7.reads
  have O7 := Lib.hid (HO6.out.below hb7)
  have B7 : Hid (Below w1.heap.size w1 w7) := Lib.hid (B6.out.trans (hb7.mono B6.out.size))
  clear ho7 hb7 r2
  go_wp2_with (at_builtin; go_loud (refine wpList_append_ints Tryz.u8s _ _ rfl w1.heap.size _ _ (ints (numsW [n, k])) (ints (numW ms.length)) rfl rfl O7.out R7.out (by decide) (by have := HL2.out; have := HLN.out; rw [length_ints, length_ints]; omega) B7.out.size rfl ?_; intro v8 w8 hown8 hgr8 hat8 hnil8 hbel8; obtain ⟨p8, q8, k8, rfl⟩ := shape3 hown8; rw [ints_app] at hown8; have O8 := Lib.hid hown8; have B8 : Hid (Below w1.heap.size w1 w8) := Lib.hid (B7.out.trans hbel8); clear hown8 hgr8 hat8 hnil8 hbel8))
  go_loopw [3, 4] (fun x y wr => ∃ (j : Nat) (v3 : Value), j ≤ ms.length ∧ x = v3 ∧ y = .int .i64 j ∧ Owns wr w1.heap.size 5 .u8 v3 (ints (numsW [n, k] ++ numW ms.length ++ numsW ((ms.take j).map Int.toNat))) ∧ Below w1.heap.size w1 wr) (fun _ y _ => ms.length - (intOf y).toNat)
  case atStart => exact ⟨0, _, Nat.zero_le _, rfl, rfl, by rw [List.take_zero, List.map_nil, numsW_nil, List.append_nil]; exact O8.out, B8.out⟩
  case round =>
    obtain ⟨j, v3, hj, rfl, rfl, ho3, hb3⟩ := hrel
    have O3 := Lib.hid ho3
    have B3 := Lib.hid hb3
    obtain ⟨p3, q3, k3, rfl⟩ := shape3 ho3
    clear ho3 hb3
    have SR := Lib.hid (S1.out.below B3.out)
    obtain ⟨_, _, r2, r3, _, _, _, _⟩ := SR.out
    by_cases hjk : j < ms.length
    · have BW : Hid (Below w.heap.size w wr) := Lib.hid (B1.out.trans (B3.out.mono B1.out.size))
      have HCX : Hid (∃ b o, am = some ⟨b, o, none⟩ ∧ wr.cell? ⟨b, o + j, none⟩ = some (.int .i64 ms[j])) := Lib.hid ((HM.out.below BW.out).cells.2.2 j hjk)
      obtain ⟨b, o, rfl, hcell⟩ := HCX.out
      clear HCX
      have hz0 : 0 ≤ ms[j] := by have := ok_nonneg HMO.out.2.2 j hjk; rwa [getDi hjk] at this
      have hz7 : ms[j] < 7 := by have := (HMO.out.2.2 j hjk).2; rwa [getDi hjk] at this
      have HTK : Hid (numsW ((ms.take (j + 1)).map Int.toNat) = numsW ((ms.take j).map Int.toNat) ++ numW ms[j].toNat) := Lib.hid (by
        rw [List.take_add_one, List.getElem?_eq_getElem hjk]
        unfold numsW
        simp only [Option.toList_some, List.map_append, List.flatMap_append, List.map_cons, List.map_nil, List.flatMap_cons, List.flatMap_nil, List.append_nil])
      obtain ⟨z, hz⟩ : ∃ z : Nat, ms[j] = z := ⟨ms[j].toNat, by omega⟩
      rw [hz] at hcell hz0 hz7 HTK
      clear hz
      rw [Int.toNat_natCast] at HTK
      have j0 : (0 : Int) ≤ (j : Int) := by omega
      have j1 : (j : Int) < (ms.length : Int) := by omega
      go_wp2_with fail
      refine (rnumw_any z _ (by omega)).mono ?_
      rintro e w4 ⟨v4, rfl, ho4, hb4⟩
      obtain ⟨p4, q4, k4, rfl⟩ := shape3 ho4
      have R4 : Hid (Reads w4 .u8 (.slice p4 q4 k4) (ints (numW z))) := Lib.hid ho4.reads
      have O4 := Lib.hid (O3.out.below hb4)
      have B4 : Hid (Below w1.heap.size w1 w4) := Lib.hid (B3.out.trans (hb4.mono B3.out.size))
      have HZ9 : Hid ((ints (numW z)).length ≤ 9) := Lib.hid (by rw [length_ints]; exact numW_len (by omega))
      clear ho4 hb4 r2 r3 hcell
      go_wp2_with (at_builtin; go_loud (refine wpList_append_ints Tryz.u8s _ _ rfl w1.heap.size _ _ (ints (numsW [n, k] ++ numW ms.length ++ numsW ((ms.take j).map Int.toNat))) (ints (numW z)) rfl rfl O4.out R4.out (by decide) (by have := HZ9.out; have := HL2.out; have := HLN.out; have := HLM.out j; rw [length_ints (numsW [n, k] ++ numW ms.length ++ numsW ((ms.take j).map Int.toNat))]; simp only [List.length_append]; omega) B4.out.size rfl ?_; intro v5 w5 hown5 hgr5 hat5 hnil5 hbel5; have O5 := Lib.hid hown5; have B5 : Hid (Below w1.heap.size w1 w5) := Lib.hid (B4.out.trans hbel5); clear hown5 hgr5 hat5 hnil5 hbel5))
      go_roundw
      case rel => exact ⟨j + 1, _, by omega, rfl, by first | rfl | go_num, by rw [HTK.out, ← List.append_assoc, ← ints_app]; exact O5.out, B5.out⟩
      all_goals (show ms.length - ((j : Int) + 1).toNat < ms.length - ((j : Int)).toNat; omega)
    · have hje : j = ms.length := by omega
      subst hje
      have BW : Hid (Below w.heap.size w wr) := Lib.hid (B1.out.trans (B3.out.mono B1.out.size))
      have HBD : Hid (Bytes wr (.slice a d.length c) d) := Lib.hid (HD.out.below BW.out)
      go_wp2_with (refine wpList_to_str rfl 22 9 5 _ rfl Tryz.underlying22 Tryz.underlying5 Tryz.underlying9 _ _ rfl HBD.out ?_)
      have hzS : (strN d).size = d.length := size_strN d
      have HNS : Hid (natsOf (strN d) = d) := Lib.hid (natsOf_strN HD.out.lt)
      refine (rtextw_any (strN d) wr (by rw [hzS]; omega)).mono ?_
      rintro e w4 ⟨v4, rfl, ho4, hb4⟩
      rw [HNS.out, hzS] at ho4
      obtain ⟨p4, q4, k4, rfl⟩ := shape3 ho4
      have R4 : Hid (Reads w4 .u8 (.slice p4 q4 k4) (ints (numW d.length ++ d))) := Lib.hid ho4.reads
      have O4 := Lib.hid (O3.out.below hb4)
      have B4 : Hid (Below w1.heap.size w1 w4) := Lib.hid (B3.out.trans (hb4.mono B3.out.size))
      have HZ9 : Hid ((ints (numW d.length ++ d)).length ≤ 40000) := Lib.hid (by rw [length_ints, List.length_append]; have := numW_len (n := d.length) (by omega); omega)
      clear ho4 hb4 r2 r3 hzS
      have HLL : Hid ((ints (numsW [n, k] ++ numW ms.length ++ numsW ((ms.take ms.length).map Int.toNat))).length ≤ 100) := Lib.hid (by
        rw [length_ints, List.length_append, List.length_append]
        have := HL2.out; have := HLN.out; have := HLM.out ms.length; omega)
      go_wp2_with (at_builtin; go_loud (refine wpList_append_ints Tryz.u8s _ _ rfl w1.heap.size _ _ (ints (numsW [n, k] ++ numW ms.length ++ numsW ((ms.take ms.length).map Int.toNat))) (ints (numW d.length ++ d)) rfl rfl O4.out R4.out (by decide) (by have := HLL.out; have h9 := numW_len (n := d.length) (by omega); have e : (ints (numW d.length ++ d)).length = (numW d.length).length + d.length := (by rw [length_ints, List.length_append]); omega) B4.out.size rfl ?_; intro v5 w5 hown5 hgr5 hat5 hnil5 hbel5; have O5 := Lib.hid hown5; have B5 : Hid (Below w1.heap.size w1 w5) := Lib.hid (B4.out.trans hbel5); clear hown5 hgr5 hat5 hnil5 hbel5))
      go_ret
      have HE : Hid (numsW [n, k] ++ numW ms.length ++ numsW ((ms.take ms.length).map Int.toNat) ++ (numW d.length ++ d) = snapW ⟨n, k, ms, d⟩) := Lib.hid (by rw [List.take_length]; exact HSW.out)
      refine ⟨v5, rfl, ?_, B1.out.trans (B5.out.mono B1.out.size)⟩
      have h := O5.out
      rw [ints_app, HE.out] at h
      refine Bytes.of_owns h ?_ ?_
      · rw [← HSW.out]
        intro x hx
        rcases List.mem_append.1 hx with hx | hx
        · rcases List.mem_append.1 hx with hx | hx
          · rcases List.mem_append.1 hx with hx | hx
            · exact numsW_lt _ (two_lt HI.out HT.out) x hx
            · exact numW_lt (n := ms.length) (by omega) x hx
          · exact numsW_lt _ (by have := mems_lt HMO.out ms.length; rwa [List.take_length] at this) x hx
        · rcases List.mem_append.1 hx with hx | hx
          · exact numW_lt (n := d.length) (by omega) x hx
          · exact HD.out.lt x hx
      · rw [← HE.out]
        have := HLL.out
        have h9 := numW_len (n := d.length) (by omega)
        rw [length_ints] at this
        simp only [List.length_append] at this ⊢
        omega

set_option maxHeartbeats 1000000 in
set_option maxRecDepth 20000 in
theorem rsbytes_any (v : Value) (s : SnapS) (w : World) (h : SnapIs w v s) (hok : s.ok) :
    Calls Tryz.prog 110 #[v] w fun e w' => ∃ v', e = .returned v' ∧ Bytes w' v' (frP 4 (snapW s)) ∧ Below w.heap.size w w' := by
  have H := Lib.hid h
  have HOK := Lib.hid hok
  obtain ⟨mv, dv, rfl, hm, hd⟩ := h
  obtain ⟨a, c, rfl, _⟩ := hd.shape
  obtain ⟨am, cm, rfl, _⟩ := hm.shape
  clear hm hd hok
  go_enter Tryz.func110, Tryz.ntmps110
  go_wp2_with fail
  have B1 : Hid (Below w.heap.size w (w.alloc (.cells #[.int .u64 s.i, .int .u64 s.t, .slice am s.ms.length cm, .slice a s.d.length c] 40))) := Lib.hid ((Below.refl _ _).alloc (Nat.le_refl _) _)
  refine (rbody_any _ s _ (H.out.below B1.out) HOK.out).mono ?_
  rintro e w2 ⟨v2, rfl, hB2, hb2⟩
  have HB2 := Lib.hid hB2
  have B2 : Hid (Below w.heap.size w w2) := Lib.hid (B1.out.trans (hb2.mono B1.out.size))
  have HL : Hid ((snapW s).length ≤ 100000) := Lib.hid (by
    obtain ⟨h1, h2, h3, h4, h5, h6⟩ := HOK.out
    have g1 := headW_len (n := s.i.toNat) (k := s.t.toNat) (by rw [Int.toNat_of_nonneg (by omega)]; exact Int.lt_trans h2 (by decide)) (by rw [Int.toNat_of_nonneg (by omega)]; exact Int.lt_of_le_of_lt h4 (by decide)) s.ms h5.2.1
    have g2 := memsW_len h5 s.ms.length
    rw [List.take_length] at g2
    have g3 := numW_len (n := s.d.length) (by omega)
    unfold snapW
    simp only [List.length_append]
    omega)
  clear hB2 hb2
  go_wp2_with fail
  refine (rbytes_any 4 v2 (snapW s) w2 HB2.out (by decide) HL.out).mono ?_
  rintro e w3 ⟨v3, rfl, hB3, hb3⟩
  have HB3 := Lib.hid hB3
  have B3 : Hid (Below w.heap.size w w3) := Lib.hid (B2.out.trans (hb3.mono B2.out.size))
  clear hB3 hb3
  go_wp2_with fail
  go_ret
  exact ⟨v3, rfl, HB3.out, B3.out⟩
end Go.Proofs.YtofhccpagnkalaaGreat

/- The names of the disk's files rise; the contract of Names; no conditions but the ranges. -/
namespace Go.Proofs.YtofhccpagnkalaaGreat
open Go.RowKit Go.Maps Go.Proofs.Own

section
variable {H : Type}
def LitB (p q : Lit × DataW H) : Prop := p.1.before q.1 = true
theorem mem_insert {x p : Lit × DataW H} : ∀ {l : List (Lit × DataW H)}, p ∈ DataW.insert x l → p = x ∨ p ∈ l
  | [], h => by simpa [DataW.insert] using h
  | y :: r, h => by
    unfold DataW.insert at h
    split at h
    · rcases List.mem_cons.1 h with h | h
      · exact .inl h
      · exact .inr h
    · rcases List.mem_cons.1 h with h | h
      · exact .inr (h ▸ List.mem_cons_self)
      · exact (mem_insert h).imp id (List.mem_cons_of_mem _)
theorem insert_pw {x : Lit × DataW H} {a : List UInt8} (hx : x.1 = .string a) : ∀ {l : List (Lit × DataW H)}, l.Pairwise LitB → (∀ y ∈ l, x.1 ≠ y.1 ∧ ∃ b, y.1 = .string b) → (DataW.insert x l).Pairwise LitB
  | [], _, _ => by simp [DataW.insert]
  | y :: r, hp, hd => by
    obtain ⟨hne, b, hy⟩ := hd y List.mem_cons_self
    obtain ⟨h1, h2⟩ := List.pairwise_cons.1 hp
    unfold DataW.insert
    split
    · rename_i hb
      refine List.pairwise_cons.2 ⟨fun z hz => ?_, hp⟩
      rcases List.mem_cons.1 hz with rfl | hz
      · exact hb
      · obtain ⟨_, c, hc⟩ := hd z (List.mem_cons_of_mem _ hz)
        have h3 := h1 z hz
        unfold LitB at h3 ⊢
        rw [hx, hy] at hb
        rw [hy, hc] at h3
        rw [hx, hc]
        exact WideShapes.bytes_trans _ _ _ hb h3
    · rename_i hb
      refine List.pairwise_cons.2 ⟨fun z hz => ?_, insert_pw hx h2 fun z hz => hd z (List.mem_cons_of_mem _ hz)⟩
      rcases mem_insert hz with rfl | hz
      · unfold LitB
        rw [hx, hy] at hb hne
        rw [hx, hy]
        rcases WideAt.bytes_total a b (fun e => hne (by rw [e])) with h | h
        · exact absurd h hb
        · exact h
      · exact h1 z hz
theorem foldr_pw : ∀ {xs : List (Lit × DataW H)}, xs.Pairwise (fun p q => p.1 ≠ q.1) → (∀ p ∈ xs, ∃ a, p.1 = .string a) → (xs.foldr DataW.insert []).Pairwise LitB
  | [], _, _ => List.Pairwise.nil
  | x :: r, hp, hs => by
    obtain ⟨h1, h2⟩ := List.pairwise_cons.1 hp
    obtain ⟨a, ha⟩ := hs x List.mem_cons_self
    refine insert_pw ha (foldr_pw h2 fun p hp => hs p (List.mem_cons_of_mem _ hp)) fun y hy => ?_
    have hm := mem_sorted.1 hy
    exact ⟨h1 y hm, hs y (List.mem_cons_of_mem _ hm)⟩
end

/-- The files' names rise. -/
def Rising (L : List FileS) : Prop := L.Pairwise fun a b => nameLt a.name b.name = true
theorem MapIs.rising {w : World} {mb : Nat} {vals : ByteArray → Value} {L : List FileS} (h : MapIs w mb vals L) : Rising L := by
  obtain ⟨es', hD', hko⟩ := World.ownsMap.keysOf h
  obtain ⟨es, clock, hb, F, _, hD⟩ := h
  have hD2 : L.map (ent vals) = (es.toList.map (WideElems.rg Tryz.prog 9 contR)).foldr DataW.insert [] := by unfold dat at hD; injection hD
  have hp := foldr_pw (Maps.fit_apart law F) (fun p hp => by
    have h1 := mem_sorted.2 hp
    rw [← hD2] at h1
    obtain ⟨f, _, rfl⟩ := List.mem_map.1 h1
    exact ⟨_, rfl⟩)
  rw [← hD2, List.pairwise_map] at hp
  exact hp
theorem nameLt_ne {a b : ByteArray} (h : nameLt a b = true) : a ≠ b := by
  rintro rfl
  unfold nameLt at h
  rw [WideAt.bytes_irrefl] at h
  cases h
theorem nameLt_asymm {a b : ByteArray} (h : nameLt a b = true) : nameLt b a = false := by
  cases h2 : nameLt b a with
  | false => rfl
  | true =>
    have := WideShapes.bytes_trans _ _ _ h h2
    rw [WideAt.bytes_irrefl] at this
    cases this
theorem bytes_lt : ∀ {a b : List UInt8}, bytesBefore a b = true → a < b
  | [], [], h => by simp [bytesBefore] at h
  | [], y :: s, _ => List.nil_lt_cons y s
  | x :: r, [], h => by simp [bytesBefore] at h
  | x :: r, y :: s, h => by
    simp only [bytesBefore, Bool.or_eq_true, decide_eq_true_eq, Bool.and_eq_true, beq_iff_eq] at h
    rcases h with h | ⟨rfl, h⟩
    · exact List.cons_lt_cons_iff.2 (.inl h)
    · exact List.cons_lt_cons_iff.2 (.inr ⟨rfl, bytes_lt h⟩)

/-- v: a slice of the strings ns. -/
def Strs (w : World) (v : Value) (ns : List ByteArray) : Prop := ∃ a c, v = .slice a ns.length c ∧ ∀ j (h : j < ns.length), ∃ b o, a = some ⟨b, o, none⟩ ∧ w.cell? ⟨b, o + j, none⟩ = some (.string ns[j])
theorem Strs.kept {w w' : World} {v : Value} {ns : List ByteArray} {S : Nat → Prop} (h : Strs w v ns) (hk : Kept w w' S) (hs : ∀ b, v.ownBlock = some b → ¬ S b) : Strs w' v ns := by
  obtain ⟨a, c, rfl, hc⟩ := h
  refine ⟨a, c, rfl, fun j hj => ?_⟩
  obtain ⟨b, o, rfl, h1⟩ := hc j hj
  exact ⟨b, o, rfl, hk.cell h1 (hs b rfl)⟩
theorem Strs.below {w w' : World} {v : Value} {ns : List ByteArray} (h : Strs w v ns) (hb : Below w.heap.size w w') : Strs w' v ns :=
  h.kept (Kept.of_below hb (S := fun _ => False) fun k h1 h2 => by omega) fun _ _ h => h

theorem enc_name (n : ByteArray) : Go.Proofs.encStr n.data.toList = .string n := by
  cases n
  simp [Go.Proofs.encStr]
theorem sorted_names {L : List FileS} (h : Rising L) {ss : List (List UInt8)} {vals : ByteArray → Value} (hp : ss.Perm (strKeys (dat vals L))) : (ss.mergeSort leB).map Go.Proofs.encStr = (L.map (·.name)).map Value.string := by
  have hk : strKeys (dat vals L) = L.map fun f => f.name.data.toList := by
    show ((L.map (ent vals)).map fun p => strOf p.1) = _
    rw [List.map_map]
    rfl
  rw [mergeSort_of_perm hp, hk, List.mergeSort_of_pairwise, List.map_map, List.map_map]
  · exact List.map_congr_left fun f _ => enc_name f.name
  · rw [List.pairwise_map]
    exact h.imp fun h => by
      simp only [leB, decide_eq_true_eq]
      exact List.le_of_lt (bytes_lt h)

set_option maxHeartbeats 1000000 in
theorem dnames (db mb tb : Nat) (D : DiskS) (w : World) (h : DiskIs w db mb tb D) (hw : DWf D) :
    Calls Tryz.prog 93 #[.pointer (some ⟨db, 0, none⟩)] w fun e w' => ∃ v, e = .returned v ∧ Strs w' v (D.files.map (·.name)) ∧ Below w.heap.size w w' ∧ ∀ b, v.ownBlock = some b → w.heap.size ≤ b := by
  have H := Lib.hid h
  have c0 := h.c0
  obtain ⟨vals, hm, _⟩ := h.fs
  have HM := Lib.hid hm
  have HMX : Hid (Maps.size (dat vals D.files) ≤ maxLen ∧ Maps.size (dat vals D.files) * 16 ≤ 140737488355328) := Lib.hid (by rw [dat_size]; have := hw.many; unfold maxLen; omega)
  clear h hm hw
  go_enter Tryz.func93, Tryz.ntmps93
  go_wp2_with fail
  refine (dnone db mb tb D _ H.out).mono ?_
  rintro e w1 ⟨rfl, rfl⟩
  go_wp2_with fail
  refine ((Go.callsIn_wide (n := 5)).1 (Tryz.maps_Keys_128 (some mb) w)).mono ?_
  rintro e w1 ⟨rfl, rfl⟩
  go_wp2_with fail
  refine ((Go.callsIn_wide (n := 5)).1 (Tryz.slices_Sorted_keys_127_128 mb _ _ _ w HM.out HMX.out.1 HMX.out.2)).mono ?_
  rintro e w2 ⟨v, ss, rfl, hS, hrow, hnil, hb⟩
  have HS := Lib.hid hS
  have HR := Lib.hid hrow
  have HB := Lib.hid hb
  clear hS hrow hnil hb
  go_wp2_with fail
  go_ret
  have hsn := sorted_names HM.out.rising HS.out
  have hl : ss.length = (D.files.map (·.name)).length := by rw [HS.out.length_eq]; show ((D.files.map (ent vals)).map _).length = _; simp
  have hr := HR.out
  rw [hsn, hl] at hr
  refine ⟨v, rfl, ?_, ((Below.refl _ _).alloc (Nat.le_refl _) _).trans (HB.out.mono (by simp)), fun b hb => by have := (World.ownsRow.lt hr b hb).1; simp only [World.size_alloc] at this; omega⟩
  rcases hr.2 with ⟨rfl, h0⟩ | ⟨g, cap, cur, rfl, _⟩
  · exact ⟨none, 0, by rw [h0], fun j hj => by omega⟩
  · refine ⟨_, _, rfl, fun j hj => ⟨g, 0, rfl, ?_⟩⟩
    rw [Nat.zero_add, World.ownsRow.cellAt hr j (by omega), List.getElem?_map, List.getElem?_eq_getElem hj]
    rfl
end Go.Proofs.YtofhccpagnkalaaGreat

/- Slices of rows of several cells; the tears of a crash; no conditions. -/
namespace Go.Proofs.YtofhccpagnkalaaGreat
open Go.RowKit Go.Maps Go.Proofs.Own

/-- v: a slice of rows of sz cells each. -/
def SRow (w : World) (sz : Nat) (v : Value) (rs : List (List Value)) : Prop :=
  ∃ a c, v = .slice a rs.length c ∧ rs.length ≤ c ∧ ∀ j (h : j < rs.length), ∃ b o, a = some ⟨b, o, none⟩ ∧ b < w.heap.size ∧ ∀ i x, rs[j][i]? = some x → w.cell? ⟨b, o + j * sz + i, none⟩ = some x
theorem SRow.kept {w w' : World} {sz : Nat} {v : Value} {rs : List (List Value)} {S : Nat → Prop} (h : SRow w sz v rs) (hk : Kept w w' S) (hs : rs = [] ∨ ∀ b, v.ownBlock = some b → ¬ S b) : SRow w' sz v rs := by
  obtain ⟨a, c, rfl, hl, hc⟩ := h
  refine ⟨a, c, rfl, hl, fun j hj => ?_⟩
  obtain ⟨b, o, rfl, h0, h1⟩ := hc j hj
  refine ⟨b, o, rfl, Nat.lt_of_lt_of_le h0 hk.size, fun i x hx => hk.cell (h1 i x hx) ?_⟩
  rcases hs with hs | hs
  · subst hs; exact absurd hj (Nat.not_lt_zero j)
  · exact hs b rfl
theorem SRow.below {w w' : World} {sz : Nat} {v : Value} {rs : List (List Value)} (h : SRow w sz v rs) (hb : Below w.heap.size w w') : SRow w' sz v rs :=
  h.kept (Kept.of_below hb (S := fun _ => False) fun k h1 h2 => by omega) (.inr fun _ _ h => h)
theorem SRow.nil (w : World) (sz : Nat) : SRow w sz (.slice none 0 0) [] := ⟨none, 0, rfl, Nat.le_refl _, fun j h => absurd h (Nat.not_lt_zero j)⟩
theorem SRow.shape {w : World} {sz : Nat} {v : Value} {rs : List (List Value)} (h : SRow w sz v rs) : ∃ a c, v = .slice a rs.length c ∧ rs.length ≤ c := let ⟨a, c, e, hl, _⟩ := h; ⟨a, c, e, hl⟩
theorem SRow.at {w : World} {sz : Nat} {a : Option Addr} {n c : Nat} {rs : List (List Value)} (h : SRow w sz (.slice a n c) rs) {j : Nat} (hj : j < rs.length) : ∃ b o, a = some ⟨b, o, none⟩ ∧ b < w.heap.size ∧ ∀ i x, rs[j][i]? = some x → w.cell? ⟨b, o + j * sz + i, none⟩ = some x := by
  obtain ⟨a', c', e, _, hc⟩ := h
  cases e
  exact hc j hj
theorem own_slicedN (a : Option Addr) (lo hi m s n c : Nat) : (Go.sliced a lo hi m s).ownBlock = (Value.slice a n c).ownBlock := by
  unfold Go.sliced
  split
  · cases a <;> rfl
  · cases a with
    | none => rfl
    | some x =>
      obtain ⟨b, o, s'⟩ := x
      simp only [Option.map_some, Value.ownBlock, Addr.add]
      split <;> rfl
/-- s[lo:] -/
theorem SRow.cutl {P : Program} {t e : TypeId} {sz : Nat} (ht : P.underlying t = some (.slice e)) (hz : (P.info? e).map (·.size) = some sz) {w : World} {v : Value} {rs : List (List Value)} (h : SRow w sz v rs) (lo : Nat) (h1 : lo ≤ rs.length) :
    ∃ v', SRow w sz v' (rs.drop lo) ∧ v'.ownBlock = v.ownBlock ∧ ∀ w', (Instr.slice t v (Option.some (Value.int .i64 lo)) none none).run P w' = .ok v' w' := by
  obtain ⟨a, c, rfl, hl, hc⟩ := h
  obtain ⟨i, hi, hs⟩ := Option.map_eq_some_iff.1 hz
  have hel : P.elem t = e := by simp [Program.elem, ht]
  have hlen : (rs.drop lo).length = rs.length - lo := List.length_drop
  refine ⟨Go.sliced a lo rs.length c sz, ⟨_, _, by rw [hlen]; rfl, by rw [hlen]; omega, fun j hj => ?_⟩, own_slicedN _ _ _ _ _ _ _, fun w' => ?_⟩
  · rw [hlen] at hj
    obtain ⟨b, o, rfl, h0, h1⟩ := hc (lo + j) (by omega)
    refine ⟨b, o + lo * sz, ?_, h0, fun i x hx => ?_⟩
    · rw [if_neg (by omega)]
      simp [Addr.add_lit]
    · rw [show o + lo * sz + j * sz + i = o + (lo + j) * sz + i by rw [Nat.add_mul]; omega]
      refine h1 i x ?_
      rw [← hx]
      simp
  · rw [run_slice_l w' t a rs.length c (by rw [hel]; exact ht) .i64 lo (by omega) (by omega), hel]
    simp [sizeOf, typeInfo, hi, hs, Result.andThen, go_sem]

/-- A tear's cells. -/
def tearV (t : Nat × Nat) : List Value := [.int .u16 t.1, .int .u32 t.2]
/-- v: the tears ts. -/
def TearsIs (w : World) (v : Value) (ts : List (Nat × Nat)) : Prop := SRow w 2 v (ts.map tearV) ∧ ∀ t ∈ ts, t.1 < 65536 ∧ t.2 < 4294967296
theorem TearsIs.kept {w w' : World} {v : Value} {ts : List (Nat × Nat)} {S : Nat → Prop} (h : TearsIs w v ts) (hk : Kept w w' S) (hs : ts = [] ∨ ∀ b, v.ownBlock = some b → ¬ S b) : TearsIs w' v ts := ⟨h.1.kept hk (hs.imp (fun e => by rw [e]; rfl) id), h.2⟩
theorem TearsIs.below {w w' : World} {v : Value} {ts : List (Nat × Nat)} (h : TearsIs w v ts) (hb : Below w.heap.size w w') : TearsIs w' v ts := ⟨h.1.below hb, h.2⟩
theorem TearsIs.nil (w : World) : TearsIs w (.slice none 0 0) [] := ⟨SRow.nil w 2, nofun⟩
theorem TearsIs.tail {P : Program} {t e : TypeId} (ht : P.underlying t = some (.slice e)) (hz : (P.info? e).map (·.size) = some 2) {w : World} {v : Value} {x : Nat × Nat} {ts : List (Nat × Nat)} (h : TearsIs w v (x :: ts)) :
    ∃ v', TearsIs w v' ts ∧ v'.ownBlock = v.ownBlock ∧ ∀ w', (Instr.slice t v (Option.some (Value.int .i64 1)) none none).run P w' = .ok v' w' := by
  obtain ⟨v', h1, h2, h3⟩ := h.1.cutl ht hz 1 (by simp)
  exact ⟨v', ⟨by simpa using h1, fun t ht => h.2 t (List.mem_cons_of_mem _ ht)⟩, h2, h3⟩
theorem TearsIs.head {w : World} {a : Option Addr} {n c : Nat} {x : Nat × Nat} {ts : List (Nat × Nat)} (h : TearsIs w (.slice a n c) (x :: ts)) :
    n = ts.length + 1 ∧ n ≤ c ∧ ∃ b o, a = some ⟨b, o, none⟩ ∧ w.cell? ⟨b, o, none⟩ = some (.int .u16 x.1) ∧ w.cell? ⟨b, o + 1, none⟩ = some (.int .u32 x.2) := by
  obtain ⟨a', c', e, hl⟩ := h.1.shape
  cases e
  obtain ⟨b, o, e, _, hc⟩ := h.1.at (j := 0) (by simp)
  refine ⟨by simp, hl, b, o, e, ?_, ?_⟩
  · have := hc 0 (.int .u16 x.1) rfl
    simpa using this
  · have := hc 1 (.int .u32 x.2) rfl
    simpa using this
end Go.Proofs.YtofhccpagnkalaaGreat

/- Contracts of the disk's torn and of the next tear; no conditions but the ranges. -/
namespace Go.Proofs.YtofhccpagnkalaaGreat
open Go.RowKit Go.Maps Go.Proofs.Own

theorem sizeTear : (Tryz.prog.info? 169).map (·.size) = some 2 := by kernel_rfl
def NextPost (tc : Nat) (R : Nat → Prop) (ts : List (Nat × Nat)) (w : World) : Ending → World → Prop := fun E w' => E = .returned (.agg #[.int .u16 ((ts.headD (0, 0)).1 : Nat), .int .u32 ((ts.headD (0, 0)).2 : Nat)]) ∧
  (∃ v', w'.heap[tc]? = some (.cells #[v'] 64 (0, 0)) ∧ TearsIs w' v' ts.tail ∧ (ts.tail = [] ∨ ∀ b, v'.ownBlock = some b → ¬ R b)) ∧ Kept w w' (fun k => k = tc)

set_option maxHeartbeats 1000000 in
set_option maxRecDepth 20000 in
theorem dnext_any (tc : Nat) (R : Nat → Prop) (hR : R tc) (v : Value) (ts : List (Nat × Nat)) (w : World) (hblk : w.heap[tc]? = some (.cells #[v] 64 (0, 0))) (hT : TearsIs w v ts) (hap : ts = [] ∨ ∀ b, v.ownBlock = some b → ¬ R b) :
    Calls Tryz.prog 98 #[.pointer (some ⟨tc, 0, none⟩)] w (NextPost tc R ts w) := by
  have h0 := cell_of_one hblk
  have hf := free_of_one hblk
  have HBK := Lib.hid hblk
  have htl : tc < w.heap.size := World.block_lt_of_cell? _ _ h0
  clear hblk
  cases ts with
  | nil =>
    obtain ⟨a, c, rfl, hl⟩ := hT.1.shape
    have HT := Lib.hid hT
    have HC := Lib.hid h0
    have HF := Lib.hid hf
    clear hl hT hap hf
    simp only [List.map_nil, List.length_nil] at h0
    go_enter Tryz.func98, Tryz.ntmps98
    go_wp2_with fail
    refine bodyPost_ret (v := .agg #[.int .u16 0, .int .u32 0]) (by simp [results, Tryz.results98, go_sem]) rfl ?_
    have hb : Below w.heap.size w (w.alloc (.cells #[.int .u16 0, .int .u32 0] 169)) := (Below.refl _ _).alloc (Nat.le_refl _) _
    exact ⟨rfl, ⟨_, (hb.block tc htl).trans HBK.out, HT.out.below hb, .inl rfl⟩, Kept.of_below hb fun k h1 h2 => by omega⟩
  | cons x ts =>
    obtain ⟨a, c, rfl, hl⟩ := hT.1.shape
    have hap' : ∀ b, (Value.slice a (List.map tearV (x :: ts)).length c).ownBlock = some b → ¬ R b := hap.resolve_left (by simp)
    obtain ⟨v2, hT2, hO2, hcut⟩ := hT.tail Tryz.underlying64 sizeTear
    obtain ⟨hn, hcap, b, o, rfl, hc0, hc1⟩ := hT.head
    have HL2 := Lib.hid (show TearsIs w v2 ts from hT2)
    rw [hn] at h0 hcut hap' hO2
    have HRB := Lib.hid (hap' b rfl)
    have hbt : b ≠ tc := fun e => hap' b rfl (e ▸ hR)
    have hbl : b < w.heap.size := World.block_lt_of_cell? _ _ hc0
    have HO : Hid (∀ g, v2.ownBlock = some g → g = b) := Lib.hid fun g hg => by rw [hO2] at hg; exact (Option.some.inj hg).symm
    have HCUT := Lib.hid hcut
    have NN : Hid ((¬ tc = w.heap.size) ∧ (¬ b = w.heap.size) ∧ ¬ w.heap.size = tc) := Lib.hid ⟨by omega, by omega, by omega⟩
    have FR := Lib.hid hf
    have hpos : (0 : Int) < (ts.length : Int) + 1 := by omega
    obtain ⟨a2, c2, hv2, _⟩ := HL2.out.1.shape
    subst hv2
    generalize (List.map tearV ts).length = m2 at *
    clear hT hl hap hap' hT2 hO2 hn hcap hf hcut
    go_enter Tryz.func98, Tryz.ntmps98
    have B1 : Hid (Below w.heap.size w (w.alloc (.cells #[.int .u16 0, .int .u32 0] 169))) := Lib.hid ((Below.refl _ _).alloc (Nat.le_refl _) _)
    have M1' : (w.alloc (.cells #[.int .u16 0, .int .u32 0] 169)).cell? ⟨w.heap.size, 0, none⟩ = some (.int .u16 0) ∧ (w.alloc (.cells #[.int .u16 0, .int .u32 0] 169)).cell? ⟨w.heap.size, 1, none⟩ = some (.int .u32 0) ∧ (w.alloc (.cells #[.int .u16 0, .int .u32 0] 169)).frozen? ⟨w.heap.size, 0, none⟩ = false ∧ (w.alloc (.cells #[.int .u16 0, .int .u32 0] 169)).frozen? ⟨w.heap.size, 1, none⟩ = false := ⟨by go_cell, by go_cell, by simp, by simp⟩
    have M1 := Lib.hid M1'
    clear M1'
    go_wp2_with fail
    generalize World.alloc w _ = w1 at *
    have XR : Hid (w1.cell? ⟨tc, 0, none⟩ = some (.slice (some ⟨b, o, none⟩) (ts.length + 1) c) ∧ w1.cell? ⟨b, o, none⟩ = some (.int .u16 (x.1 : Nat)) ∧ w1.cell? ⟨b, o + 1, none⟩ = some (.int .u32 (x.2 : Nat))) := Lib.hid ⟨Below.at B1.out h0 htl, Below.at B1.out hc0 hbl, Below.at B1.out hc1 hbl⟩
    have FR1 : Hid (w1.frozen? ⟨tc, 0, none⟩ = false) := Lib.hid (by rw [B1.out.frozen (p := ⟨tc, 0, none⟩) htl]; exact FR.out)
    have L1 := B1.out.size
    clear h0 hc0 hc1 FR
    have FR := FR1
    have hcut := HCUT.out
    refine region_start [0, 1, 3, 0, 8, 7, 63] 32 (fun w' => w'.cell? ⟨tc, 0, none⟩ = some (.slice (some ⟨b, o, none⟩) (ts.length + 1) c) ∧ w'.cell? ⟨b, o, none⟩ = some (.int .u16 (x.1 : Nat)) ∧ w'.cell? ⟨b, o + 1, none⟩ = some (.int .u32 (x.2 : Nat))) (by kernel_rfl) ?_
    refine stage_heads [0, 1, 2, 3, 4] (by kernel_rfl) (L := #[true, true, true, true, true, false, false]) (by kernel_rfl) (f' := 2) rfl (fun _ _ _ _ h => h) (fun w o h => (((Stable.cell _ _).and ((Stable.cell _ _).and (Stable.cell _ _))).alloc h o)) (.inr XR.out) ?_
    simp only [List.flatMap_cons, List.flatMap_nil, List.drop_succ_cons, List.drop_zero, List.take_succ_cons, List.take_zero, List.cons_append, List.nil_append, List.append_nil]
    iterate 5 (first | (refine heads_load _ (by rfl) (fun w' hs => by obtain ⟨y0, y1, y2⟩ := hs; go_simp; try with_reducible rfl) rfl ?_; simp only [Act.put, List.setIfInBounds_toArray, List.set_cons_zero, List.set_cons_succ]) | (refine heads_pure _ (by rfl) (fun w' => by go_simp; try with_reducible rfl) ?_; simp only [Act.put, List.setIfInBounds_toArray, List.set_cons_zero, List.set_cons_succ]))
    refine heads_nil ?_
    refine stage_op 5 (by kernel_rfl) (L := #[true, true, true, true, true, true, false]) (by kernel_rfl) ?_
    simp only [List.drop_succ_cons, List.drop_zero, List.take_succ_cons, List.take_zero]
    have z0 := M1.out.1; have z1 := M1.out.2.1; have z2 := M1.out.2.2.1; have z3 := M1.out.2.2.2; go_wp2_with fail; generalize hw2 : World.setCell _ _ _ = w2; have K2 : Hid (Kept w1 w2 (fun k => k = w.heap.size)) := Lib.hid (by subst hw2; exact (Kept.setCell w1 ⟨w.heap.size, 0, none⟩ _).trans (Kept.setCell _ ⟨w.heap.size, 1, none⟩ _)); have R2 : Hid (w2.cell? ⟨w.heap.size, 0, none⟩ = some (.int .u16 (x.1 : Nat)) ∧ w2.cell? ⟨w.heap.size, 1, none⟩ = some (.int .u32 (x.2 : Nat)) ∧ w2.frozen? ⟨w.heap.size, 0, none⟩ = false ∧ w2.frozen? ⟨w.heap.size, 1, none⟩ = false) := Lib.hid (by subst hw2; exact ⟨by rw [World.cell?_setCell_other _ _ _ _ (by simp)]; exact World.cell?_setCell_same _ _ _ z0, World.cell?_setCell_same _ _ _ (by rw [World.cell?_setCell_other _ _ _ _ (by simp)]; exact z1), by rw [World.frozen?_setCell, World.frozen?_setCell]; exact z2, by rw [World.frozen?_setCell, World.frozen?_setCell]; exact z3⟩); clear hw2 z0 z1 z2 z3
    refine step_post (fun _ => ⟨K2.out.cell XR.out.1 NN.out.1, K2.out.cell XR.out.2.1 NN.out.2.1, K2.out.cell XR.out.2.2 NN.out.2.1⟩) ?_
    refine stage_op 6 (by kernel_rfl) (L := #[true, true, true, true, true, true, true]) (by kernel_rfl) ?_
    simp only [List.drop_succ_cons, List.drop_zero, List.take_succ_cons, List.take_zero]
    have z0 := K2.out.cell XR.out.1 NN.out.1; have z1 : w2.frozen? ⟨tc, 0, none⟩ = false := (by rw [K2.out.frozen (a := ⟨tc, 0, none⟩) (Nat.lt_of_lt_of_le htl L1) NN.out.1]; exact FR.out); go_wp2_with fail; generalize hw3 : World.setCell _ _ _ = w3; have K3 : Hid (Kept w2 w3 (fun k => k = tc)) := Lib.hid (by subst hw3; exact Kept.setCell _ ⟨tc, 0, none⟩ _); have BK3 : Hid (w3.heap[tc]? = some (.cells #[.slice a2 m2 c2] 64 (0, 0))) := Lib.hid (by subst hw3; exact one_setCell ((K2.out.block tc (Nat.lt_of_lt_of_le htl L1) NN.out.1).trans ((B1.out.block tc htl).trans HBK.out))); have C3 : Hid (w3.cell? ⟨tc, 0, none⟩ = some (.slice a2 m2 c2) ∧ w3.frozen? ⟨tc, 0, none⟩ = false ∧ w3.frozen? ⟨w.heap.size, 0, none⟩ = false ∧ w3.frozen? ⟨w.heap.size, 1, none⟩ = false) := Lib.hid (by subst hw3; exact ⟨World.cell?_setCell_same _ _ _ z0, by rw [World.frozen?_setCell]; exact z1, by rw [World.frozen?_setCell]; exact R2.out.2.2.1, by rw [World.frozen?_setCell]; exact R2.out.2.2.2⟩); clear hw3 z0 z1
    refine step_post nofun ?_
    refine stage_done (by kernel_rfl) ?_
    have q0 := K3.out.cell R2.out.1 NN.out.2.2
    have q1 := K3.out.cell R2.out.2.1 NN.out.2.2
    have f0 : w3.frozen? ⟨w.heap.size, 0, none⟩ = false := C3.out.2.2.1
    have f1 : w3.frozen? ⟨w.heap.size, 1, none⟩ = false := C3.out.2.2.2
    have l3 : w.heap.size < w3.heap.size := World.block_lt_of_cell? _ _ q0
    have B1k := B1.out
    go_wp2_with fail
    generalize hw4 : World.setCell (World.setCell w3 _ _) _ _ = w4
    have K4 : Hid (Kept w3 w4 (fun k => k = w.heap.size)) := Lib.hid (by subst hw4; exact (Kept.setCell w3 ⟨w.heap.size, 0, none⟩ _).trans (Kept.setCell _ ⟨w.heap.size, 1, none⟩ _))
    have r0 : w4.cell? ⟨w.heap.size, 0, none⟩ = some (.int .u16 (x.1 : Nat)) := by subst hw4; rw [World.cell?_setCell_other _ _ _ _ (by simp)]; exact World.cell?_setCell_same _ _ _ q0
    have r1 : w4.cell? ⟨w.heap.size, 1, none⟩ = some (.int .u32 (x.2 : Nat)) := by subst hw4; exact World.cell?_setCell_same _ _ _ (by rw [World.cell?_setCell_other _ _ _ _ (by simp)]; exact q1)
    have r2 : w4.frozen? ⟨tc, 0, none⟩ = false := by subst hw4; rw [World.frozen?_setCell, World.frozen?_setCell]; exact C3.out.2.1
    have l4 : w.heap.size < w4.heap.size := World.block_lt_of_cell? _ _ r0
    clear hw4 q0 q1 f0 f1
    refine bodyPost_ret (v := .agg #[.int .u16 (x.1 : Nat), .int .u32 (x.2 : Nat)]) (by simp [results, Tryz.results98, go_sem, r0, r1]) rfl ?_
    have KA : Kept w w4 (fun k => k = tc) := by
      exact (((Kept.of_below B1.out (S := fun k => k = tc) (fun k h1 h2 => by omega)).stepNew K2.out (Nat.le_refl _)).trans K3.out).stepNew K4.out (Nat.le_refl _)
    have KD : Kept w w4.drew (fun k => k = tc) := KA.trans (Kept.drew _ _)
    exact ⟨rfl, ⟨_, (K4.out.block tc (Nat.lt_of_lt_of_le (Nat.lt_of_lt_of_le htl L1) (Nat.le_trans K2.out.size K3.out.size)) NN.out.1).trans BK3.out, HL2.out.kept KD (.inr fun g hg => by rw [HO.out g hg]; exact hbt), .inr fun g hg => by rw [HO.out g hg]; exact HRB.out⟩, KD⟩

def xorAt (b : List Nat) (j x : Nat) : List Nat := b.set j (b.getD j 0 ^^^ x)
/-- The loose bytes l, torn; the last three of what stays are turned. -/
def tornTo (b : List Nat) (t : Nat) : Nat → List Nat
  | 0 => b
  | i + 1 => xorAt (tornTo b t i) (b.length - 3 + i) (t / 2 ^ (16 - 8 * i) % 256)
def tornL (l : List Nat) (t : Nat × Nat) : List Nat := if 3 ≤ (l.take (t.1 % (l.length + 1))).length then tornTo (l.take (t.1 % (l.length + 1))) t.2 3 else l.take (t.1 % (l.length + 1))
theorem length_tornTo (b : List Nat) (t : Nat) : ∀ i, (tornTo b t i).length = b.length
  | 0 => rfl
  | i + 1 => by rw [tornTo, xorAt, List.length_set, length_tornTo b t i]
theorem tornTo_lt {b : List Nat} (h : ∀ c ∈ b, c < 256) (t : Nat) : ∀ i, ∀ c ∈ tornTo b t i, c < 256
  | 0 => h
  | i + 1 => by
    intro c hc
    unfold tornTo xorAt at hc
    rcases List.mem_or_eq_of_mem_set hc with hc | rfl
    · exact tornTo_lt h t i c hc
    · have h1 : (tornTo b t i).getD (b.length - 3 + i) 0 < 256 := by
        rw [List.getD_eq_getElem?_getD]
        cases e : (tornTo b t i)[b.length - 3 + i]? with
        | none => simp
        | some x => exact tornTo_lt h t i x (List.mem_of_getElem? e)
      exact Nat.xor_lt_two_pow (n := 8) h1 (Nat.mod_lt _ (by decide))
theorem vals_set (L : List Nat) (j y : Nat) : (ints (L.set j y)).map (Value.int .u8) = ((ints L).map (Value.int .u8)).set j (.int .u8 (y : Int)) := by
  unfold ints
  rw [List.map_set, List.map_set]
theorem xor8 (a b : Nat) (ha : a < 256) (hb : b < 256) : bits .xor .u8 (a : Int) (b : Int) = ((a ^^^ b : Nat) : Int) := by
  have h := Nat.xor_lt_two_pow (n := 8) ha hb
  have e8 : ∀ n : Nat, n < 256 → (BitVec.ofInt 8 (n : Int)).toNat = n := fun n hn => by
    rw [BitVec.ofInt_natCast, BitVec.toNat_ofNat]; exact Nat.mod_eq_of_lt hn
  have hw : ∀ n : Int, IntKind.u8.wrap n = n % 256 := fun n => by simp [IntKind.wrap, IntKind.bits, IntKind.signed]
  show IntKind.u8.wrap ((BitVec.ofInt 8 (a : Int) ^^^ BitVec.ofInt 8 (b : Int)).toNat : Int) = _
  rw [BitVec.toNat_xor, e8 a ha, e8 b hb, hw]
  omega

set_option maxHeartbeats 2000000 in
set_option maxRecDepth 20000 in
theorem torn_any (v : Value) (l : List Nat) (t : Nat × Nat) (w : World) (hB : Bytes w v l) (h1 : t.1 < 65536) (h2 : t.2 < 4294967296) :
    Calls Tryz.prog 99 #[v, .agg #[.int .u16 (t.1 : Nat), .int .u32 (t.2 : Nat)]] w fun e w' => ∃ v', e = .returned v' ∧ Owns w' w.heap.size 5 .u8 v' (ints (tornL l t)) ∧ Below w.heap.size w w' := by
  have hls := hB.small
  have hlt : t.1 % (l.length + 1) ≤ l.length := Nat.le_of_lt_succ (Nat.mod_lt _ (by omega))
  obtain ⟨t1, t2⟩ := t
  simp only at h1 h2 hlt ⊢
  have HM : Hid ((t1 : Int) % ((l.length : Int) + 1) = ((t1 % (l.length + 1) : Nat) : Int)) := Lib.hid (by rw [Int.natCast_emod, Int.natCast_add]; rfl)
  obtain ⟨v2, hB2, hcut⟩ := hB.cuth Tryz.u8s _ hlt
  have HTL : Hid (tornL l (t1, t2) = if 3 ≤ (l.take (t1 % (l.length + 1))).length then tornTo (l.take (t1 % (l.length + 1))) t2 3 else l.take (t1 % (l.length + 1))) := Lib.hid rfl
  have HB2 := Lib.hid hB2
  generalize l.take (t1 % (l.length + 1)) = b at HB2 HTL
  generalize hm : t1 % (l.length + 1) = m at HM hcut hlt
  obtain ⟨a, c, rfl, _⟩ := hB.shape
  obtain ⟨a2, c2, rfl, _⟩ := HB2.out.shape
  have hbs : (ints b).length ≤ 2097152 := by rw [length_ints]; exact HB2.out.small
  have HT2 := Lib.hid h2
  have hm' := HM.out
  clear hB hB2 hm hlt
  have hl' : (l.length : Int) ≤ 2097152 := by omega
  have ht' : (t1 : Int) < 65536 := by omega
  have HBT := Lib.hid HB2.out.lt
  go_enter Tryz.func99, Tryz.ntmps99
  go_wp2_with fail
  refine (bclone _ _ _ (HB2.out.alloc _).rd hbs).mono ?_
  rintro e w2 ⟨v3, rfl, hown, hb2⟩
  have BX : Below w.heap.size w (w.alloc (.cells #[.int .u16 (t1 : Nat), .int .u32 (t2 : Nat)] 169)) := (Below.refl _ _).alloc (Nat.le_refl _) _
  have B2 : Hid (Below w.heap.size w w2) := Lib.hid (BX.trans (hb2.mono BX.size))
  have C2 : Hid (w2.cell? ⟨w.heap.size, 1, none⟩ = some (.int .u32 (t2 : Nat))) := Lib.hid (Below.at hb2 (by go_cell) (by simp))
  have O2 : Hid (Owns w2 (w.heap.size + 1) 5 .u8 v3 (ints b)) := Lib.hid (by simpa using hown)
  clear hb2 BX hm' hcut h1 h2 hls hl' ht'
  by_cases h3 : 3 ≤ b.length
  · have HTL2 : Hid (tornL l (t1, t2) = tornTo b t2 3) := Lib.hid (by rw [HTL.out, if_pos h3])
    obtain ⟨g, cap, rfl, hg⟩ : ∃ g cap, v3 = .slice (some ⟨g, 0, none⟩) (ints b).length cap ∧ w.heap.size + 1 ≤ g := by
      rcases hown.2 with ⟨rfl, h0⟩ | ⟨g, cap, cur, rfl, h1, _⟩
      · rw [length_ints] at h0; omega
      · simp only [World.size_alloc] at h1; exact ⟨g, cap, rfl, h1⟩
    have HN : Hid ((ints b).length = b.length) := Lib.hid (length_ints b)
    obtain ⟨n, hn⟩ : ∃ n, b.length = n := ⟨_, rfl⟩
    have R2 : Hid (w2.ownsRow (w.heap.size + 1) 5 1 (.slice (some ⟨g, 0, none⟩) n cap) n ((ints b).map (.int .u8))) := Lib.hid (by have h := O2.out; unfold Owns at h; rw [HN.out, hn] at h; exact h)
    have HNB := Lib.hid hn
    have hn3 : (3 : Int) ≤ (n : Int) := by omega
    have hnm : (n : Int) ≤ 2097152 := by rw [HN.out, hn] at hbs; omega
    rw [HN.out, hn]
    clear hown hbs h3 hn O2
    go_wp2_with fail
    obtain ⟨q, hq⟩ : ∃ q : Nat, n = q + 3 := ⟨n - 3, by omega⟩
    have HQ := Lib.hid hq
    have e0 : IntKind.i64.wrap ((n : Int) - 3) = (q : Int) := by simp only [IntKind.wrap_i64]; omega
    clear hq
    go_loopw [22] (fun y wr => ∃ k : Nat, k ≤ 3 ∧ y = .int .i64 k ∧ wr.ownsRow (w.heap.size + 1) 5 1 (.slice (some ⟨g, 0, none⟩) n cap) n ((ints (tornTo b t2 k)).map (.int .u8)) ∧ wr.cell? ⟨w.heap.size, 1, none⟩ = some (.int .u32 (t2 : Nat)) ∧ Below w.heap.size w wr) (fun y _ => 3 - (intOf y).toNat)
    case atStart => exact ⟨0, by omega, rfl, R2.out, C2.out, B2.out⟩
    case round =>
      obtain ⟨k, hk, rfl, hr, hc, hb⟩ := hrel
      have RK := Lib.hid hr
      have CK := Lib.hid hc
      have BK := Lib.hid hb
      clear hr hc hb
      by_cases hk3 : k < 3
      · obtain rfl | rfl | rfl : k = 0 ∨ k = 1 ∨ k = 2 := by omega
        · clear hk hk3
          have hcx := World.ownsRow.cellAt RK.out (q) (by have := HQ.out; omega)
          obtain ⟨x, hx, hxl⟩ : ∃ x : Nat, (tornTo b t2 0).getD (q) 0 = x ∧ x < 256 := ⟨_, rfl, by
            rw [List.getD_eq_getElem?_getD]
            cases e : (tornTo b t2 0)[q]? with
            | none => simp
            | some x => exact tornTo_lt HBT.out t2 0 x (List.mem_of_getElem? e)⟩
          have hcy : wr.cell? ⟨g, q, none⟩ = some (.int .u8 (x : Nat)) := by
            rw [hcx]
            have hlen : q < (tornTo b t2 0).length := by rw [length_tornTo, HNB.out, HQ.out]; omega
            rw [← hx, List.getD_eq_getElem?_getD]
            unfold ints
            rw [List.map_map, List.getElem?_map, List.getElem?_eq_getElem hlen]
            rfl
          have HXV : Hid (tornTo b t2 (0 + 1) = (tornTo b t2 0).set (q) (x ^^^ (t2 / 65536 % 256))) := Lib.hid (by
            show (tornTo b t2 0).set (b.length - 3 + 0) ((tornTo b t2 0).getD (b.length - 3 + 0) 0 ^^^ _) = _
            rw [HNB.out, HQ.out, Nat.add_sub_cancel, show q + 0 = q from rfl, hx]
            all_goals simp)
          have HST := Lib.hid (World.ownsRow.stored RK.out (q) (.int .u8 ((x ^^^ (t2 / 65536 % 256) : Nat) : Int)))
          have XR : Hid (wr.cell? ⟨g, q, none⟩ = some (.int .u8 (x : Nat)) ∧ wr.cell? ⟨w.heap.size, 1, none⟩ = some (.int .u32 (t2 : Nat))) := Lib.hid ⟨hcy, CK.out⟩
          have FR : Hid (wr.frozen? ⟨g, q, none⟩ = false) := Lib.hid (World.ownsRow.frozenAt RK.out (q))
          have hX : bits BinOp.xor .u8 (x : Int) ((t2 : Int) / 65536 % 256) = ((x ^^^ (t2 / 65536 % 256) : Nat) : Int) := by
            rw [← xor8 x (t2 / 65536 % 256) hxl (Nat.mod_lt _ (by decide))]
            rfl
          have i0 : (0 : Int) ≤ (q : Int) := by omega
          have i1 : (q : Int) < (n : Int) := by have := HQ.out; omega
          have e1 : IntKind.i64.wrap (q : Int) = (q : Int) := by simp only [IntKind.wrap_i64]; omega
          have e2 : (q : Int).toNat = q := by omega
          have hsh : ∀ w', (Op.shift BinOp.shr IntKind.u32 (t2 : Int) IntKind.i64 (IntKind.i64.wrap (16 - IntKind.i64.wrap 0))).run Tryz.prog w' = .ok (.int .u32 ((t2 : Int) / 65536)) w' := fun w' => by
            rw [show IntKind.i64.wrap (16 - IntKind.i64.wrap 0) = 16 by decide]
            simp [go_sem]
          clear hcx hcy hx hxl
          go_wp2_with fail
          refine region_start [0, 0, 2, 0, 14, 31, 63, 0, 128, 0, 512, 1536, 3968, 8064, 16383, 32767, 65535] 0 (fun w' => w'.cell? ⟨g, q, none⟩ = some (.int .u8 (x : Nat)) ∧ w'.cell? ⟨w.heap.size, 1, none⟩ = some (.int .u32 (t2 : Nat))) (by kernel_rfl) ?_
          refine stage_heads [0, 1, 2, 3, 4, 5, 6, 7, 8, 9, 10, 11, 12, 13, 14, 15] (by kernel_rfl) (L := #[true, true, true, true, true, true, true, true, true, true, true, true, true, true, true, true, false]) (by kernel_rfl) (f' := 1) rfl (fun _ _ _ _ h => h) (fun w o h => ((Stable.cell _ _).and (Stable.cell _ _)).alloc h o) (.inr XR.out) ?_
          simp only [List.flatMap_cons, List.flatMap_nil, List.drop_succ_cons, List.drop_zero, List.take_succ_cons, List.take_zero, List.cons_append, List.nil_append, List.append_nil]
          iterate 16 (first | (refine heads_load _ (by rfl) (fun w' hs => by obtain ⟨y0, y1⟩ := hs; go_simp; try with_reducible rfl) rfl ?_; simp only [Act.put, List.setIfInBounds_toArray, List.set_cons_zero, List.set_cons_succ]) | (refine heads_pure _ (by rfl) (fun w' => by go_simp; try with_reducible rfl) ?_; simp only [Act.put, List.setIfInBounds_toArray, List.set_cons_zero, List.set_cons_succ]))
          refine heads_nil ?_
          refine stage_op 16 (by kernel_rfl) (L := #[true, true, true, true, true, true, true, true, true, true, true, true, true, true, true, true, true]) (by kernel_rfl) ?_
          simp only [List.drop_succ_cons, List.drop_zero, List.take_succ_cons, List.take_zero]
          have z0 := XR.out.1; have z1 := FR.out; go_wp2_with fail
          refine step_post nofun ?_
          refine stage_done (by kernel_rfl) ?_
          go_wp2_with fail
          go_roundw
          case rel => exact ⟨0 + 1, by omega, by first | rfl | go_num, by rw [HXV.out, vals_set]; exact HST.out.1, (by
            show (World.setCell _ _ _).cell? _ = _
            rw [World.cell?_setCell_other _ _ _ _ (by intro e; injection e with e1; omega)]
            exact CK.out), (BK.out.setCell (show w.heap.size ≤ g by omega) _).drew⟩
          case measure => simp [intOf]
        · clear hk hk3
          have hcx := World.ownsRow.cellAt RK.out (q + 1) (by have := HQ.out; omega)
          obtain ⟨x, hx, hxl⟩ : ∃ x : Nat, (tornTo b t2 1).getD (q + 1) 0 = x ∧ x < 256 := ⟨_, rfl, by
            rw [List.getD_eq_getElem?_getD]
            cases e : (tornTo b t2 1)[q + 1]? with
            | none => simp
            | some x => exact tornTo_lt HBT.out t2 1 x (List.mem_of_getElem? e)⟩
          have hcy : wr.cell? ⟨g, q + 1, none⟩ = some (.int .u8 (x : Nat)) := by
            rw [hcx]
            have hlen : q + 1 < (tornTo b t2 1).length := by rw [length_tornTo, HNB.out, HQ.out]; omega
            rw [← hx, List.getD_eq_getElem?_getD]
            unfold ints
            rw [List.map_map, List.getElem?_map, List.getElem?_eq_getElem hlen]
            rfl
          have HXV : Hid (tornTo b t2 (1 + 1) = (tornTo b t2 1).set (q + 1) (x ^^^ (t2 / 256 % 256))) := Lib.hid (by
            show (tornTo b t2 1).set (b.length - 3 + 1) ((tornTo b t2 1).getD (b.length - 3 + 1) 0 ^^^ _) = _
            rw [HNB.out, HQ.out, Nat.add_sub_cancel, show q + 1 = q + 1 from rfl, hx]
            all_goals simp)
          have HST := Lib.hid (World.ownsRow.stored RK.out (q + 1) (.int .u8 ((x ^^^ (t2 / 256 % 256) : Nat) : Int)))
          have XR : Hid (wr.cell? ⟨g, q + 1, none⟩ = some (.int .u8 (x : Nat)) ∧ wr.cell? ⟨w.heap.size, 1, none⟩ = some (.int .u32 (t2 : Nat))) := Lib.hid ⟨hcy, CK.out⟩
          have FR : Hid (wr.frozen? ⟨g, q + 1, none⟩ = false) := Lib.hid (World.ownsRow.frozenAt RK.out (q + 1))
          have hX : bits BinOp.xor .u8 (x : Int) ((t2 : Int) / 256 % 256) = ((x ^^^ (t2 / 256 % 256) : Nat) : Int) := by
            rw [← xor8 x (t2 / 256 % 256) hxl (Nat.mod_lt _ (by decide))]
            rfl
          have i0 : (0 : Int) ≤ ((q : Int) + 1) := by omega
          have i1 : ((q : Int) + 1) < (n : Int) := by have := HQ.out; omega
          have e1 : IntKind.i64.wrap ((q : Int) + 1) = ((q : Int) + 1) := by simp only [IntKind.wrap_i64]; omega
          have e2 : ((q : Int) + 1).toNat = q + 1 := by omega
          have hsh : ∀ w', (Op.shift BinOp.shr IntKind.u32 (t2 : Int) IntKind.i64 (IntKind.i64.wrap (16 - IntKind.i64.wrap 8))).run Tryz.prog w' = .ok (.int .u32 ((t2 : Int) / 256)) w' := fun w' => by
            rw [show IntKind.i64.wrap (16 - IntKind.i64.wrap 8) = 8 by decide]
            simp [go_sem]
          clear hcx hcy hx hxl
          go_wp2_with fail
          refine region_start [0, 0, 2, 0, 14, 31, 63, 0, 128, 0, 512, 1536, 3968, 8064, 16383, 32767, 65535] 0 (fun w' => w'.cell? ⟨g, q + 1, none⟩ = some (.int .u8 (x : Nat)) ∧ w'.cell? ⟨w.heap.size, 1, none⟩ = some (.int .u32 (t2 : Nat))) (by kernel_rfl) ?_
          refine stage_heads [0, 1, 2, 3, 4, 5, 6, 7, 8, 9, 10, 11, 12, 13, 14, 15] (by kernel_rfl) (L := #[true, true, true, true, true, true, true, true, true, true, true, true, true, true, true, true, false]) (by kernel_rfl) (f' := 1) rfl (fun _ _ _ _ h => h) (fun w o h => ((Stable.cell _ _).and (Stable.cell _ _)).alloc h o) (.inr XR.out) ?_
          simp only [List.flatMap_cons, List.flatMap_nil, List.drop_succ_cons, List.drop_zero, List.take_succ_cons, List.take_zero, List.cons_append, List.nil_append, List.append_nil]
          iterate 16 (first | (refine heads_load _ (by rfl) (fun w' hs => by obtain ⟨y0, y1⟩ := hs; go_simp; try with_reducible rfl) rfl ?_; simp only [Act.put, List.setIfInBounds_toArray, List.set_cons_zero, List.set_cons_succ]) | (refine heads_pure _ (by rfl) (fun w' => by go_simp; try with_reducible rfl) ?_; simp only [Act.put, List.setIfInBounds_toArray, List.set_cons_zero, List.set_cons_succ]))
          refine heads_nil ?_
          refine stage_op 16 (by kernel_rfl) (L := #[true, true, true, true, true, true, true, true, true, true, true, true, true, true, true, true, true]) (by kernel_rfl) ?_
          simp only [List.drop_succ_cons, List.drop_zero, List.take_succ_cons, List.take_zero]
          have z0 := XR.out.1; have z1 := FR.out; go_wp2_with fail
          refine step_post nofun ?_
          refine stage_done (by kernel_rfl) ?_
          go_wp2_with fail
          go_roundw
          case rel => exact ⟨1 + 1, by omega, by first | rfl | go_num, by rw [HXV.out, vals_set]; exact HST.out.1, (by
            show (World.setCell _ _ _).cell? _ = _
            rw [World.cell?_setCell_other _ _ _ _ (by intro e; injection e with e1; omega)]
            exact CK.out), (BK.out.setCell (show w.heap.size ≤ g by omega) _).drew⟩
          case measure => simp [intOf]
        · clear hk hk3
          have hcx := World.ownsRow.cellAt RK.out (q + 2) (by have := HQ.out; omega)
          obtain ⟨x, hx, hxl⟩ : ∃ x : Nat, (tornTo b t2 2).getD (q + 2) 0 = x ∧ x < 256 := ⟨_, rfl, by
            rw [List.getD_eq_getElem?_getD]
            cases e : (tornTo b t2 2)[q + 2]? with
            | none => simp
            | some x => exact tornTo_lt HBT.out t2 2 x (List.mem_of_getElem? e)⟩
          have hcy : wr.cell? ⟨g, q + 2, none⟩ = some (.int .u8 (x : Nat)) := by
            rw [hcx]
            have hlen : q + 2 < (tornTo b t2 2).length := by rw [length_tornTo, HNB.out, HQ.out]; omega
            rw [← hx, List.getD_eq_getElem?_getD]
            unfold ints
            rw [List.map_map, List.getElem?_map, List.getElem?_eq_getElem hlen]
            rfl
          have HXV : Hid (tornTo b t2 (2 + 1) = (tornTo b t2 2).set (q + 2) (x ^^^ (t2 % 256))) := Lib.hid (by
            show (tornTo b t2 2).set (b.length - 3 + 2) ((tornTo b t2 2).getD (b.length - 3 + 2) 0 ^^^ _) = _
            rw [HNB.out, HQ.out, Nat.add_sub_cancel, show q + 2 = q + 2 from rfl, hx]
            all_goals simp)
          have HST := Lib.hid (World.ownsRow.stored RK.out (q + 2) (.int .u8 ((x ^^^ (t2 % 256) : Nat) : Int)))
          have XR : Hid (wr.cell? ⟨g, q + 2, none⟩ = some (.int .u8 (x : Nat)) ∧ wr.cell? ⟨w.heap.size, 1, none⟩ = some (.int .u32 (t2 : Nat))) := Lib.hid ⟨hcy, CK.out⟩
          have FR : Hid (wr.frozen? ⟨g, q + 2, none⟩ = false) := Lib.hid (World.ownsRow.frozenAt RK.out (q + 2))
          have hX : bits BinOp.xor .u8 (x : Int) ((t2 : Int) % 256) = ((x ^^^ (t2 % 256) : Nat) : Int) := by
            rw [← xor8 x (t2 % 256) hxl (Nat.mod_lt _ (by decide))]
            rfl
          have i0 : (0 : Int) ≤ ((q : Int) + 2) := by omega
          have i1 : ((q : Int) + 2) < (n : Int) := by have := HQ.out; omega
          have e1 : IntKind.i64.wrap ((q : Int) + 2) = ((q : Int) + 2) := by simp only [IntKind.wrap_i64]; omega
          have e2 : ((q : Int) + 2).toNat = q + 2 := by omega
          have hsh : ∀ w', (Op.shift BinOp.shr IntKind.u32 (t2 : Int) IntKind.i64 (IntKind.i64.wrap (16 - IntKind.i64.wrap 16))).run Tryz.prog w' = .ok (.int .u32 ((t2 : Int))) w' := fun w' => by
            rw [show IntKind.i64.wrap (16 - IntKind.i64.wrap 16) = 0 by decide]
            simp [go_sem]
          clear hcx hcy hx hxl
          go_wp2_with fail
          refine region_start [0, 0, 2, 0, 14, 31, 63, 0, 128, 0, 512, 1536, 3968, 8064, 16383, 32767, 65535] 0 (fun w' => w'.cell? ⟨g, q + 2, none⟩ = some (.int .u8 (x : Nat)) ∧ w'.cell? ⟨w.heap.size, 1, none⟩ = some (.int .u32 (t2 : Nat))) (by kernel_rfl) ?_
          refine stage_heads [0, 1, 2, 3, 4, 5, 6, 7, 8, 9, 10, 11, 12, 13, 14, 15] (by kernel_rfl) (L := #[true, true, true, true, true, true, true, true, true, true, true, true, true, true, true, true, false]) (by kernel_rfl) (f' := 1) rfl (fun _ _ _ _ h => h) (fun w o h => ((Stable.cell _ _).and (Stable.cell _ _)).alloc h o) (.inr XR.out) ?_
          simp only [List.flatMap_cons, List.flatMap_nil, List.drop_succ_cons, List.drop_zero, List.take_succ_cons, List.take_zero, List.cons_append, List.nil_append, List.append_nil]
          iterate 16 (first | (refine heads_load _ (by rfl) (fun w' hs => by obtain ⟨y0, y1⟩ := hs; go_simp; try with_reducible rfl) rfl ?_; simp only [Act.put, List.setIfInBounds_toArray, List.set_cons_zero, List.set_cons_succ]) | (refine heads_pure _ (by rfl) (fun w' => by go_simp; try with_reducible rfl) ?_; simp only [Act.put, List.setIfInBounds_toArray, List.set_cons_zero, List.set_cons_succ]))
          refine heads_nil ?_
          refine stage_op 16 (by kernel_rfl) (L := #[true, true, true, true, true, true, true, true, true, true, true, true, true, true, true, true, true]) (by kernel_rfl) ?_
          simp only [List.drop_succ_cons, List.drop_zero, List.take_succ_cons, List.take_zero]
          have z0 := XR.out.1; have z1 := FR.out; go_wp2_with fail
          refine step_post nofun ?_
          refine stage_done (by kernel_rfl) ?_
          go_wp2_with fail
          go_roundw
          case rel => exact ⟨2 + 1, by omega, by first | rfl | go_num, by rw [HXV.out, vals_set]; exact HST.out.1, (by
            show (World.setCell _ _ _).cell? _ = _
            rw [World.cell?_setCell_other _ _ _ _ (by intro e; injection e with e1; omega)]
            exact CK.out), (BK.out.setCell (show w.heap.size ≤ g by omega) _).drew⟩
          case measure => simp [intOf]
      · obtain rfl : k = 3 := by omega
        go_wp2_with fail
        go_ret
        rw [HTL2.out]
        refine ⟨_, rfl, Owns.lower (base := w.heap.size + 1) ?_ (fun g' hg' => ?_), BK.out⟩
        · unfold Owns; rw [length_ints, length_tornTo, HNB.out]; exact RK.out
        · simp only [Value.ownBlock] at hg'
          have e : g = g' := Option.some.inj hg'
          show w.heap.size ≤ g'
          omega
  · have hb3 : ¬ (3 : Int) ≤ ((ints b).length : Int) := by rw [length_ints]; omega
    have HTL2 : Hid (tornL l (t1, t2) = b) := Lib.hid (by rw [HTL.out, if_neg h3])
    obtain ⟨a3, c3, rfl⟩ := hown.shape
    clear hown h3
    go_wp2_with fail
    go_ret
    rw [HTL2.out]
    exact ⟨_, rfl, O2.out.lower (fun g hg => by have := (O2.out.lt g hg).1; omega), B2.out⟩
end Go.Proofs.YtofhccpagnkalaaGreat

/- A crash of the disk; no conditions but the ranges. -/
namespace Go.Proofs.YtofhccpagnkalaaGreat
open Go.RowKit Go.Maps Go.Proofs.Own

theorem Rising.mid {A B : List FileS} {f : FileS} (h : Rising (A ++ f :: B)) : (∀ g ∈ A, nameLt g.name f.name = true) ∧ ∀ g ∈ B, nameLt f.name g.name = true := by
  obtain ⟨_, h2, h3⟩ := List.pairwise_append.1 h
  exact ⟨fun g hg => h3 g hg f List.mem_cons_self, (List.pairwise_cons.1 h2).1⟩
theorem find_mid {A B : List FileS} {f : FileS} (h : Rising (A ++ f :: B)) : findFile f.name (A ++ f :: B) = some f := by
  obtain ⟨h1, _⟩ := h.mid
  unfold findFile
  rw [List.find?_append, List.find?_eq_none.2 (fun g hg => by have := nameLt_ne (h1 g hg); simpa using this)]
  simp
theorem del_mid {A B : List FileS} {f : FileS} (h : Rising (A ++ f :: B)) : delFile f.name (A ++ f :: B) = A ++ B := by
  obtain ⟨h1, h2⟩ := h.mid
  unfold delFile
  rw [List.filter_append, List.filter_cons]
  rw [List.filter_eq_self.2 (fun g hg => by have := nameLt_ne (h1 g hg); simpa using this)]
  have hB : B.filter (fun g => !decide (g.name = f.name)) = B := List.filter_eq_self.2 (fun g hg => by have := (nameLt_ne (h2 g hg)).symm; simpa using this)
  rw [hB]
  simp
theorem ins_mid {f : FileS} : ∀ {A B : List FileS}, (∀ g ∈ A, nameLt g.name f.name = true) → (∀ g ∈ B, nameLt f.name g.name = true) → insFile f (A ++ B) = A ++ f :: B
  | [], [], _, _ => rfl
  | [], b :: B, _, h2 => by
    show insFile f (b :: B) = _
    rw [insFile, if_pos (h2 b List.mem_cons_self)]
    rfl
  | a :: A, B, h1, h2 => by
    show insFile f (a :: (A ++ B)) = _
    rw [insFile, nameLt_asymm (h1 a List.mem_cons_self), if_neg (by decide), ins_mid (fun g hg => h1 g (List.mem_cons_of_mem _ hg)) h2]
    rfl
theorem put_mid {A B : List FileS} {f f' : FileS} (h : Rising (A ++ f :: B)) (hn : f'.name = f.name) : putFile f' (A ++ f :: B) = A ++ f' :: B := by
  obtain ⟨h1, h2⟩ := h.mid
  unfold putFile
  rw [hn, del_mid h]
  exact ins_mid (by rw [hn]; exact h1) (by rw [hn]; exact h2)

/-- What is left of a file behind a crash. -/
def crash1 (f : FileS) (ts : List (Nat × Nat)) : List FileS :=
  if f.kept < f.all.length then (if f.all.take f.kept ++ tornL (f.all.drop f.kept) (ts.headD (0, 0)) = [] then [] else [⟨f.name, f.all.take f.kept ++ tornL (f.all.drop f.kept) (ts.headD (0, 0)), (f.all.take f.kept ++ tornL (f.all.drop f.kept) (ts.headD (0, 0))).length⟩])
  else if f.all = [] then [] else [f]
def tears1 (f : FileS) (ts : List (Nat × Nat)) : List (Nat × Nat) := if f.kept < f.all.length then ts.tail else ts
def crashL : List FileS → List (Nat × Nat) → List FileS
  | [], _ => []
  | f :: r, ts => crash1 f ts ++ crashL r (tears1 f ts)
def crashT : List FileS → List (Nat × Nat) → List (Nat × Nat)
  | [], ts => ts
  | f :: r, ts => crashT r (tears1 f ts)
def crashD (D : DiskS) (ts : List (Nat × Nat)) : DiskS := { D with down := true, armed := -1, files := crashL D.files ts }
theorem crashL_app (A B : List FileS) : ∀ ts, crashL (A ++ B) ts = crashL A ts ++ crashL B (crashT A ts) := by
  induction A with
  | nil => intro ts; rfl
  | cons f r ih => intro ts; simp only [List.cons_append, crashL, crashT, ih, List.append_assoc]
theorem crashT_app (A B : List FileS) : ∀ ts, crashT (A ++ B) ts = crashT B (crashT A ts) := by
  induction A with
  | nil => intro ts; rfl
  | cons f r ih => intro ts; simp only [List.cons_append, crashT, ih]
theorem length_tornL (l : List Nat) (t : Nat × Nat) : (tornL l t).length ≤ l.length := by
  unfold tornL
  split
  · rw [length_tornTo]; exact List.length_take_le' _ _
  · exact List.length_take_le' _ _
theorem tornL_lt {l : List Nat} (h : ∀ c ∈ l, c < 256) (t : Nat × Nat) : ∀ c ∈ tornL l t, c < 256 := by
  unfold tornL
  split
  · exact tornTo_lt (fun c hc => h c (List.mem_of_mem_take hc)) _ _
  · exact fun c hc => h c (List.mem_of_mem_take hc)

theorem length_crash1 (f : FileS) (ts : List (Nat × Nat)) : (crash1 f ts).length ≤ 1 := by
  unfold crash1
  split <;> split <;> simp
theorem length_crashL : ∀ (L : List FileS) (ts : List (Nat × Nat)), (crashL L ts).length ≤ L.length
  | [], _ => Nat.le_refl _
  | f :: r, ts => by
    have h1 := length_crash1 f ts
    have h2 := length_crashL r (tears1 f ts)
    simp only [crashL, List.length_append, List.length_cons]
    omega
theorem Bytes.offOne {w : World} {v x : Value} {l : List Nat} {g tc : Nat} {t : TypeId} (h : Bytes w v l) (hg : v.ownBlock = some g) (hne : l ≠ []) (hb : w.heap[tc]? = some (.cells #[x] t (0, 0))) (hx : ∀ y, x ≠ .int .u8 y) : g ≠ tc := by
  rintro rfl
  obtain ⟨b, o, c, rfl, _, _, hc⟩ := h.somewhere (List.length_pos_iff.2 hne)
  obtain rfl : b = g := Option.some.inj hg
  have h0 := hc 0 (List.length_pos_iff.2 hne)
  simp only [World.cell?, hb, Nat.add_zero] at h0
  cases o with
  | zero => exact hx _ (Option.some.inj h0)
  | succ o => simp at h0
theorem Bytes.setNe {w : World} {v : Value} {l : List Nat} (h : Bytes w v l) {p : Addr} (y : Value) (hne : ∀ x, w.cell? p ≠ some (.int .u8 x)) : Bytes (w.setCell p y) v l := ⟨h.shape, Reads.setNe h.rd y hne, h.lt, h.small⟩
theorem Bytes.keptIf {w w' : World} {v : Value} {l : List Nat} {S : Nat → Prop} (h : Bytes w v l) (hk : Kept w w' S) (hs : l ≠ [] → ∀ b, v.ownBlock = some b → ¬ S b) : Bytes w' v l := by
  by_cases hl : l = []
  · subst hl
    exact ⟨h.shape, by obtain ⟨a, c, rfl, _⟩ := h.shape; exact Reads.nil _ _ _ _, h.lt, h.small⟩
  · exact h.kept hk (hs hl)
/-- A block of one cell that holds no byte turns. -/
theorem DiskIs.keptOne {w w' : World} {db mb tb tc : Nat} {D : DiskS} {x : Value} {t : TypeId} (h : DiskIs w db mb tb D) (hb : w.heap[tc]? = some (.cells #[x] t (0, 0))) (hx : ∀ y, x ≠ .int .u8 y) (hk : Kept w w' (fun k => k = tc)) (ht : ¬ Own3 db mb tb tc) : DiskIs w' db mb tb D :=
  h.kept hk (fun k h1 h2 => ht (h2 ▸ h1)) fun vals f _ hf => by
    obtain ⟨a, c, h1, h2, h3⟩ := hf
    exact ⟨a, c, h1, h2.keptIf hk (fun hne b hb' => h2.offOne hb' hne hb hx), h3⟩

/-- A file that is there is found. -/
theorem DiskIs.look {w : World} {db mb tb : Nat} {D : DiskS} (h : DiskIs w db mb tb D) {n : ByteArray} {f : FileS} (hf : findFile n D.files = some f) (hn : n.size ≤ maxLen) :
    ∃ a c, (Instr.lookup 81 (.map (some mb)) (.string n) false).run Tryz.prog w = .ok (.agg #[.slice a f.all.length c, .int .i64 f.kept]) w ∧ FileIs w db mb tb (.agg #[.slice a f.all.length c, .int .i64 f.kept]) f := by
  obtain ⟨vals, hm, hfs⟩ := h.fs
  obtain ⟨hfn, hfm⟩ := find_name hf
  have hfi := hfs f hfm
  obtain ⟨a, c, hv, hB, hg⟩ := hfi
  rw [hfn] at hv
  obtain ⟨v, ps, hrun, hR⟩ := World.ownsMap.lookup hm law Tryz.underlying81 (zeroC w) (contR_mk _ _ _ _) (keyOf_name hn)
  obtain ⟨_, e2⟩ := contR_inv hR
  rw [dat_at, hf] at e2
  simp only [Prod.mk.injEq, DataW.held.injEq] at e2
  refine ⟨a, c, by rw [hrun, ← e2.1, hv], a, c, rfl, hB, hg⟩

/-- How it stands ahead of the k-th file. -/
structure CrI (w : World) (db mb tb : Nat) (D : DiskS) (ts : List (Nat × Nat)) (nv : Value) (k : Nat) (wr : World) : Prop where
  dsk : DiskIs wr db mb tb { D with down := true, armed := -1, files := crashL (D.files.take k) ts ++ D.files.drop k }
  tear : ∃ v, wr.heap[w.heap.size]? = some (.cells #[v] 64 (0, 0)) ∧ (∃ a n c, v = .slice a n c) ∧ TearsIs wr v (crashT (D.files.take k) ts) ∧ (crashT (D.files.take k) ts = [] ∨ ∀ b, v.ownBlock = some b → ¬ (Own3 db mb tb b ∨ w.heap.size ≤ b))
  nam : Strs wr nv (D.files.map (·.name))
  kept : Kept w wr (Own3 db mb tb)

set_option maxHeartbeats 1600000 in
set_option maxRecDepth 20000 in
theorem dcrash_any (db mb tb : Nat) (D : DiskS) (v : Value) (ts : List (Nat × Nat)) (w : World) (h : DiskIs w db mb tb D) (hw : DGood D) (hT : TearsIs w v ts) (hap : ts = [] ∨ ∀ b, v.ownBlock = some b → ¬ Own3 db mb tb b) :
    Calls Tryz.prog 50 #[.pointer (some ⟨db, 0, none⟩), v] w (OpPost db mb tb (crashD D ts, 0) w) := by
  have H := Lib.hid h
  have HT := Lib.hid hT
  have HAP := Lib.hid hap
  have HW := Lib.hid hw
  have HLT3 := Lib.hid h.lt3
  have many : D.files.length ≤ 128 := hw.few
  obtain ⟨av, cv, hv, _⟩ := hT.1.shape
  subst hv
  have LT : Hid (ts = [] ∨ ∀ b, (Value.slice av (List.map tearV ts).length cv).ownBlock = some b → b < w.heap.size) := Lib.hid (by
    cases ts with
    | nil => exact .inl rfl
    | cons x r =>
      right
      intro b hb
      obtain ⟨b', o, e, hl, _⟩ := hT.1.at (j := 0) (by simp)
      rw [e] at hb
      exact (Option.some.inj hb) ▸ hl)
  generalize (List.map tearV ts).length = nt at *
  clear h hT hap hw
  go_enter Tryz.func50, Tryz.ntmps50
  go_wp2_with fail
  have BX : Below w.heap.size w (w.alloc (.cells #[.slice av nt cv] 64)) := (Below.refl _ _).alloc (Nat.le_refl _) _
  have TX : (w.alloc (.cells #[.slice av nt cv] 64)).heap[w.heap.size]? = some (.cells #[.slice av nt cv] 64 (0, 0)) := heap_alloc_new _ _
  generalize World.alloc w _ = wa at *
  have BA := Lib.hid BX
  have TA := Lib.hid TX
  have la : w.heap.size < wa.heap.size := lt_of_block TX
  have HA := Lib.hid (H.out.below BX)
  clear BX TX
  refine (dnone db mb tb D _ HA.out).mono ?_
  rintro e wa2 ⟨rfl, rfl⟩
  have c2 := HA.out.c2
  have c3 := HA.out.c3
  have f2 := HA.out.f2
  have f3 := HA.out.f3
  have hl := HA.out.lt
  go_wp2_with fail
  generalize hwb : World.setCell (World.setCell wa _ _) _ _ = wb
  have DB : Hid (DiskIs wb db mb tb { D with down := true, armed := -1 }) := Lib.hid (by subst hwb; exact (HA.out.setDown true).setArmed (-1))
  have KB : Hid (Kept wa wb (Own3 db mb tb)) := Lib.hid (by subst hwb; exact (Kept.set3 _ _ _ _ _ _).trans (Kept.set3 _ _ _ _ _ _))
  clear hwb c2 c3 f2 f3
  refine (dnames db mb tb _ _ DB.out (by have h := HW.out.wf; exact ⟨h.room0, h.room1, Int.le_refl _, (by decide : (-1 : Int) ≤ 9223372036854775807), h.steps0, h.steps1, h.many, h.each⟩)).mono ?_
  rintro e wc ⟨nv, rfl, hnv, hbc, hno⟩
  have NV := Lib.hid hnv
  have BC := Lib.hid hbc
  obtain ⟨an, cn, rfl, _⟩ := hnv
  have NW : Hid (Own3 db mb tb w.heap.size → False) := Lib.hid fun e => by have := HLT3.out _ e; omega
  have HNO : Hid (∀ b, (Value.slice an (List.map (fun f : FileS => f.name) D.files).length cn).ownBlock = some b → ¬ (Own3 db mb tb b ∨ b = w.heap.size)) := Lib.hid fun b hb => by
    have h1 := hno b hb
    have h2 := KB.out.size
    rintro (e | e)
    · have := HLT3.out b e; omega
    · omega
  have IC : Hid (CrI w db mb tb D ts (.slice an (List.map (fun f : FileS => f.name) D.files).length cn) 0 wc) := Lib.hid (by
    have tb1 : wb.heap[w.heap.size]? = some (.cells #[.slice av nt cv] 64 (0, 0)) := (KB.out.block _ la (fun e => NW.out e)).trans TA.out
    refine ⟨DB.out.below BC.out, ⟨_, (BC.out.block _ (lt_of_block tb1)).trans tb1, ⟨_, _, _, rfl⟩, ?_, ?_⟩, NV.out, (((Kept.below3 BA.out).trans KB.out).trans (Kept.below3 BC.out))⟩
    · exact ((HT.out.below BA.out).kept KB.out HAP.out).below BC.out
    · rcases HAP.out with e | h1
      · exact .inl e
      · rcases LT.out with e | h2
        · exact .inl e
        · exact .inr fun b hb h => h.elim (h1 b hb) (fun h => by have := h2 b hb; omega))
  clear hbc hno TA la
  have HNL : Hid ((List.map (fun f : FileS => f.name) D.files).length = D.files.length) := Lib.hid (List.length_map _)
  rw [HNL.out] at HNO IC ⊢
  go_wp2_with fail
  go_loopw [21] (fun y wr => ∃ k : Nat, k ≤ D.files.length ∧ y = .int .i64 k ∧ CrI w db mb tb D ts (.slice an D.files.length cn) k wr) (fun y _ => D.files.length - (intOf y).toNat)
  case atStart => exact ⟨0, Nat.zero_le _, rfl, IC.out⟩
  case round =>
    obtain ⟨k, hk, rfl, hi⟩ := hrel
    have I := Lib.hid hi
    clear hi IC NV
    by_cases hlt : k < D.files.length
    · have HSP : Hid (D.files.drop k = D.files[k] :: D.files.drop (k + 1) ∧ D.files.take (k + 1) = D.files.take k ++ [D.files[k]]) := Lib.hid ⟨List.drop_eq_getElem_cons hlt, List.take_succ_eq_append_getElem hlt⟩
      have HNM : Hid (∃ b o, an = some ⟨b, o, none⟩ ∧ wr.cell? ⟨b, o + k, none⟩ = some (.string (D.files[k]).name)) := Lib.hid (by
        obtain ⟨a', c', e, hc⟩ := I.out.nam
        obtain ⟨b, o, e1, e2⟩ := hc k (by rw [List.length_map]; exact hlt)
        injection e with e3
        exact ⟨b, o, e3.trans e1, by rw [e2, List.getElem_map]⟩)
      obtain ⟨nb, no, rfl, hnc⟩ := HNM.out
      have HEA : Hid ((D.files[k]).name.size ≤ 16 ∧ (D.files[k]).kept ≤ (D.files[k]).all.length) := Lib.hid (HW.out.wf.each _ (List.getElem_mem hlt))
      have HCR : Hid (crashL (D.files.take (k + 1)) ts = crashL (D.files.take k) ts ++ crash1 D.files[k] (crashT (D.files.take k) ts) ∧ crashT (D.files.take (k + 1)) ts = tears1 D.files[k] (crashT (D.files.take k) ts)) := Lib.hid (by
        rw [HSP.out.2, crashL_app, crashT_app]
        exact ⟨by simp [crashL], rfl⟩)
      obtain ⟨hdk, ⟨tv, ht1, ⟨ta, tn, tcp, rfl⟩, ht3, ht4⟩, hnam, hkk⟩ := I.out
      rw [HSP.out.1] at hdk
      have HLA : Hid ((crashL (D.files.take k) ts).length ≤ (D.files.take k).length) := Lib.hid (length_crashL _ _)
      generalize D.files[k] = f at *
      generalize crashL (D.files.take k) ts = A at *
      generalize crashT (D.files.take k) ts = T at *
      obtain ⟨BQ, hBQ⟩ : ∃ B, B = D.files.drop (k + 1) := ⟨_, rfl⟩
      rw [← hBQ] at hdk
      have HBQ := Lib.hid hBQ
      have HD := Lib.hid hdk
      have HRS : Hid (Rising (A ++ f :: BQ)) := Lib.hid (by obtain ⟨_, hm, _⟩ := hdk.fs; exact hm.rising)
      obtain ⟨a, c, hrun, hfi⟩ := hdk.look (n := f.name) (f := f) (find_mid HRS.out) (by have := HEA.out.1; unfold maxLen; omega)
      have FI := Lib.hid hfi
      have TC := Lib.hid (And.intro ht1 (And.intro ht3 ht4))
      have ltc : w.heap.size < wr.heap.size := lt_of_block ht1
      have ldb : db < wr.heap.size := hdk.lt
      have HLN : Hid ((A ++ f :: BQ).length ≤ 128) := Lib.hid (by
        rw [hBQ, ← HSP.out.1]
        have := HLA.out
        rw [List.length_append, List.length_drop]
        rw [List.length_take] at this
        omega)
      have HKEY : Hid (keyOf Tryz.prog 9 (.string f.name) = some (keyL f.name)) := Lib.hid (keyOf_name (by have := HEA.out.1; unfold maxLen; omega))
      have KK := Lib.hid hkk
      have NMR := Lib.hid hnam
      have c0 := hdk.c0
      have hbz : (Value.slice a f.all.length c) = (Value.slice a f.all.length c) := rfl
      have HFL : Hid (f.all.length ≤ 2097152) := Lib.hid (by obtain ⟨_, _, _, hB, _⟩ := hfi; exact hB.small)
      have k0 : (0 : Int) ≤ (k : Int) := by omega
      have k1 : (k : Int) < (D.files.length : Int) := by omega
      have hfl : (f.all.length : Int) ≤ 2097152 := by have := HFL.out; omega
      clear hBQ hdk hfi ht1 ht3 ht4 hkk hnam hbz
      by_cases hgt : f.kept < f.all.length
      · have hgt' : (f.kept : Int) < (f.all.length : Int) := by omega
        obtain ⟨th, hth⟩ : ∃ th, T.headD (0, 0) = th := ⟨_, rfl⟩
        have HTH := Lib.hid hth
        clear hth
        have B1 : Hid (Below wr.heap.size wr (wr.alloc (.cells #[.slice a f.all.length c, .int .i64 f.kept] 87))) := Lib.hid ((Below.refl _ _).alloc (Nat.le_refl _) _)
        have HT1 : Hid (tears1 f T = T.tail) := Lib.hid (if_pos hgt)
        have HFN : Hid (f.all ≠ []) := Lib.hid (fun e => by rw [e] at hgt; exact absurd hgt (Nat.not_lt_zero _))
        have HCR1 : Hid (crash1 f T = if (f.all.take f.kept ++ tornL (f.all.drop f.kept) th) = [] then [] else [⟨f.name, (f.all.take f.kept ++ tornL (f.all.drop f.kept) th), (f.all.take f.kept ++ tornL (f.all.drop f.kept) th).length⟩]) := Lib.hid (by unfold crash1; rw [if_pos hgt, HTH.out])
        go_wp2_with fail
        have X1' : ((wr.alloc (.cells #[.slice a f.all.length c, .int .i64 f.kept] 87)).cell? ⟨wr.heap.size, 0, none⟩ = some (.slice a f.all.length c) ∧ (wr.alloc (.cells #[.slice a f.all.length c, .int .i64 f.kept] 87)).cell? ⟨wr.heap.size, 1, none⟩ = some (.int .i64 f.kept) ∧ (wr.alloc (.cells #[.slice a f.all.length c, .int .i64 f.kept] 87)).frozen? ⟨wr.heap.size, 0, none⟩ = false ∧ (wr.alloc (.cells #[.slice a f.all.length c, .int .i64 f.kept] 87)).frozen? ⟨wr.heap.size, 1, none⟩ = false) := ⟨by go_cell, by go_cell, by simp, by simp⟩
        have L1' : wr.heap.size < (wr.alloc (.cells #[.slice a f.all.length c, .int .i64 f.kept] 87)).heap.size := by simp
        generalize World.alloc wr _ = w1 at *
        have X1 := Lib.hid X1'
        have L1 := L1'
        have H1 := Lib.hid (HD.out.below B1.out)
        have TC1 : Hid (w1.heap[w.heap.size]? = some (.cells #[.slice ta tn tcp] 64 (0, 0)) ∧ TearsIs w1 (.slice ta tn tcp) T ∧ (T = [] ∨ ∀ b, (Value.slice ta tn tcp).ownBlock = some b → ¬ (Own3 db mb tb b ∨ w.heap.size ≤ b))) := Lib.hid ⟨(B1.out.block _ ltc).trans TC.out.1, TC.out.2.1.below B1.out, TC.out.2.2⟩
        have NF : Hid (¬ wr.heap.size = w.heap.size) := Lib.hid (by omega)
        have FI1 : Hid (FileIs w1 db mb tb (.agg #[.slice a f.all.length c, .int .i64 f.kept]) f) := Lib.hid (FI.out.below B1.out)
        have HB0 : Hid (Bytes w1 (.slice a f.all.length c) f.all) := Lib.hid (by obtain ⟨a2, c2, e1, e2, _⟩ := FI1.out; cases e1; exact e2)
        obtain ⟨a1, hB1, hO1, hcut1⟩ := HB0.out.cut_hmo Tryz.u8s f.kept (Nat.le_of_lt hgt)
        obtain ⟨v2, hB2, hO2, hcut2⟩ := HB0.out.cutlo Tryz.u8s f.kept (Nat.le_of_lt hgt)
        have HB1 := Lib.hid hB1
        have HB2 := Lib.hid hB2
        have HO1 := Lib.hid hO1
        have HTC : Hid (∀ y, (Value.slice ta tn tcp) ≠ .int .u8 y) := Lib.hid (fun y e => by cases e)
        have NB1 : Hid (∀ g, (Value.slice a1 f.kept f.kept).ownBlock = some g → ¬ g = w.heap.size) := Lib.hid fun g hg => by rw [hO1] at hg; exact HB0.out.offOne hg HFN.out TC1.out.1 HTC.out
        have NB2 : Hid (∀ g, v2.ownBlock = some g → ¬ g = w.heap.size) := Lib.hid fun g hg => by rw [hO2] at hg; exact HB0.out.offOne hg HFN.out TC1.out.1 HTC.out
        have HTB : Hid (th.1 < 65536 ∧ th.2 < 4294967296) := Lib.hid (by
          rw [← HTH.out]
          cases T with
          | nil => exact ⟨by decide, by decide⟩
          | cons x r => exact TC1.out.2.1.2 x List.mem_cons_self)
        have HTN : Hid ((∀ c ∈ (tornL (f.all.drop f.kept) th), c < 256) ∧ (tornL (f.all.drop f.kept) th).length ≤ 2097152 ∧ (f.all.take f.kept).length + (tornL (f.all.drop f.kept) th).length ≤ 2097152) := Lib.hid (by
          have h1 := length_tornL (f.all.drop f.kept) th
          rw [List.length_drop] at h1
          have := HFL.out
          exact ⟨tornL_lt (fun c hc => HB0.out.lt c (List.mem_of_mem_drop hc)) _, by omega, by rw [List.length_take]; omega⟩)
        obtain ⟨av2, m2, cv2, ev2⟩ : ∃ a n c, v2 = Value.slice a n c := by obtain ⟨a, c, e, _⟩ := hB2.shape; exact ⟨a, _, c, e⟩
        subst ev2
        have hkp : (f.kept : Int) ≤ 2097152 := by omega
        have x0 := X1.out.1
        have x1 := X1.out.2.1
        have HCUT := Lib.hid (And.intro hcut1 hcut2)
        clear hB1 hB2 hO1 hO2 X1' L1' hrun hnc c0
        refine region_start [0, 1, 0, 4, 0, 16, 63, 0, 128, 0, 512, 1920, 0, 4096, 16256, 32767, 65535, 131071] 24576 (fun w' => w'.cell? ⟨wr.heap.size, 0, none⟩ = some (.slice a f.all.length c) ∧ w'.cell? ⟨wr.heap.size, 1, none⟩ = some (.int .i64 f.kept)) (by kernel_rfl) ?_
        refine stage_heads [0, 1, 2, 3, 4, 5, 6, 7, 8, 9, 10, 11, 12] (by kernel_rfl) (L := #[true, true, true, true, true, true, true, true, true, true, true, true, true, false, false, false, false, false]) (by kernel_rfl) (f' := 5) rfl (fun _ _ _ _ h => h) (fun w o h => ((Stable.cell _ _).and (Stable.cell _ _)).alloc h o) (.inr ⟨x0, x1⟩) ?_
        simp only [List.flatMap_cons, List.flatMap_nil, List.drop_succ_cons, List.drop_zero, List.take_succ_cons, List.take_zero, List.cons_append, List.nil_append, List.append_nil]
        iterate 13 (first | (refine heads_load _ (by rfl) (fun w' hs => by obtain ⟨y0, y1⟩ := hs; go_simp; try with_reducible rfl) rfl ?_; simp only [Act.put, List.setIfInBounds_toArray, List.set_cons_zero, List.set_cons_succ]) | (refine heads_pure _ (by rfl) (fun w' => by go_simp; try with_reducible rfl) ?_; simp only [Act.put, List.setIfInBounds_toArray, List.set_cons_zero, List.set_cons_succ]))
        refine heads_nil ?_
        refine stage_op 13 (by kernel_rfl) (L := #[true, true, true, true, true, true, true, true, true, true, true, true, true, true, false, false, false, false]) (by kernel_rfl) ?_
        simp only [List.drop_succ_cons, List.drop_zero, List.take_succ_cons, List.take_zero]
        go_wp2_with fail; refine (dnext_any w.heap.size (fun b => Own3 db mb tb b ∨ w.heap.size ≤ b) (.inr (Nat.le_refl _)) (.slice ta tn tcp) T _ (by exact TC1.out.1) (by exact TC1.out.2.1) (by exact TC1.out.2.2)).mono ?_; rintro e u3 ⟨rfl, htear3, hk3⟩; rw [HTH.out]; have K3 : Hid (Kept w1 u3 (fun k => k = w.heap.size)) := Lib.hid (by first | exact hk3 | exact (Kept.drew w1 _).trans hk3); have TE3 := Lib.hid htear3; have L3 : wr.heap.size < u3.heap.size := Nat.lt_of_lt_of_le L1 K3.out.size; have X3 : Hid (u3.cell? ⟨wr.heap.size, 0, none⟩ = some (.slice a f.all.length c) ∧ u3.cell? ⟨wr.heap.size, 1, none⟩ = some (.int .i64 f.kept) ∧ u3.frozen? ⟨wr.heap.size, 0, none⟩ = false ∧ u3.frozen? ⟨wr.heap.size, 1, none⟩ = false) := Lib.hid ⟨K3.out.cell X1.out.1 NF.out, K3.out.cell X1.out.2.1 NF.out, (K3.out.frozen (a := ⟨wr.heap.size, 0, none⟩) L1 NF.out).trans X1.out.2.2.1, (K3.out.frozen (a := ⟨wr.heap.size, 1, none⟩) L1 NF.out).trans X1.out.2.2.2⟩; clear htear3 hk3 x0 x1; go_wp2_with fail
        refine step_post (fun _ => ⟨X3.out.1, X3.out.2.1⟩) ?_
        refine stage_op 14 (by kernel_rfl) (L := #[true, true, true, true, true, true, true, true, true, true, true, true, true, true, true, false, false, false]) (by kernel_rfl) ?_
        simp only [List.drop_succ_cons, List.drop_zero, List.take_succ_cons, List.take_zero]
        go_wp2_with fail; refine (torn_any _ (f.all.drop f.kept) th _ (HB2.out.keptIf K3.out (fun _ g hg e => NB2.out g hg e)) HTB.out.1 HTB.out.2).mono ?_; rintro e u4 ⟨v4, rfl, hown4, hb4⟩; obtain ⟨a4, n4, c4, rfl⟩ := shape3 hown4; have B4 : Hid (Below u3.heap.size u3 u4) := Lib.hid (by first | exact hb4 | exact ((Below.refl _ _).drew).trans hb4); have HB4 : Hid (Bytes u4 (.slice a4 n4 c4) (tornL (f.all.drop f.kept) th)) := Lib.hid (Bytes.of_owns hown4 HTN.out.1 HTN.out.2.1); have L4 : wr.heap.size < u4.heap.size := Nat.lt_of_lt_of_le L3 B4.out.size; have X4 : Hid (u4.cell? ⟨wr.heap.size, 0, none⟩ = some (.slice a f.all.length c) ∧ u4.cell? ⟨wr.heap.size, 1, none⟩ = some (.int .i64 f.kept) ∧ u4.frozen? ⟨wr.heap.size, 0, none⟩ = false ∧ u4.frozen? ⟨wr.heap.size, 1, none⟩ = false) := Lib.hid ⟨Below.at B4.out X3.out.1 L3, Below.at B4.out X3.out.2.1 L3, by rw [B4.out.frozen (p := ⟨wr.heap.size, 0, none⟩) L3]; exact X3.out.2.2.1, by rw [B4.out.frozen (p := ⟨wr.heap.size, 1, none⟩) L3]; exact X3.out.2.2.2⟩; clear hown4 hb4; go_wp2_with fail
        refine step_post (fun _ => ⟨X4.out.1, X4.out.2.1⟩) ?_
        refine stage_op 15 (by kernel_rfl) (L := #[true, true, true, true, true, true, true, true, true, true, true, true, true, true, true, true, false, false]) (by kernel_rfl) ?_
        simp only [List.drop_succ_cons, List.drop_zero, List.take_succ_cons, List.take_zero]
        refine wpList_append_full Tryz.u8s rfl _ _ rfl a1 f.kept (.slice a4 n4 c4) (f.all.take f.kept) (tornL (f.all.drop f.kept) th) rfl rfl ((HB1.out.keptIf K3.out (fun _ g hg e => NB1.out g hg e)).below B4.out) HB4.out HTN.out.2.2 ?_; intro a5 c5 w5 hB5 hb5 ho5; have HB5 := Lib.hid hB5; have B5 := Lib.hid hb5; have HO5 := Lib.hid ho5; have L5 : wr.heap.size < w5.heap.size := Nat.lt_of_lt_of_le L4 B5.out.size; have X5 : Hid (w5.cell? ⟨wr.heap.size, 0, none⟩ = some (.slice a f.all.length c) ∧ w5.cell? ⟨wr.heap.size, 1, none⟩ = some (.int .i64 f.kept) ∧ w5.frozen? ⟨wr.heap.size, 0, none⟩ = false ∧ w5.frozen? ⟨wr.heap.size, 1, none⟩ = false) := Lib.hid ⟨Below.at B5.out X4.out.1 L4, Below.at B5.out X4.out.2.1 L4, by rw [B5.out.frozen (p := ⟨wr.heap.size, 0, none⟩) L4]; exact X4.out.2.2.1, by rw [B5.out.frozen (p := ⟨wr.heap.size, 1, none⟩) L4]; exact X4.out.2.2.2⟩; generalize hn5 : (f.all.take f.kept).length + (tornL (f.all.drop f.kept) th).length = n5 at HB5 HO5 ⊢; have HN5 := Lib.hid hn5; clear hB5 hb5 ho5 hn5; go_wp2_with fail
        refine step_post nofun ?_
        refine stage_heads [16] (by kernel_rfl) (L := #[true, true, true, true, true, true, true, true, true, true, true, true, true, true, true, true, true, false]) (by kernel_rfl) (f' := 1) rfl (fun _ _ _ _ h => h) (fun w o h => ((Stable.cell _ _).and (Stable.cell _ _)).alloc h o) (.inl (by kernel_rfl)) ?_
        simp only [List.flatMap_cons, List.flatMap_nil, List.drop_succ_cons, List.drop_zero, List.take_succ_cons, List.take_zero, List.append_nil]
        iterate 1 (refine heads_pure _ (by rfl) (fun w' => by go_simp; try with_reducible rfl) ?_; simp only [Act.put, List.setIfInBounds_toArray, List.set_cons_zero, List.set_cons_succ])
        refine heads_nil ?_
        refine stage_op 17 (by kernel_rfl) (L := #[true, true, true, true, true, true, true, true, true, true, true, true, true, true, true, true, true, true]) (by kernel_rfl) ?_
        simp only [List.drop_succ_cons, List.drop_zero, List.take_succ_cons, List.take_zero]
        have x50 := X5.out.1; have x51 := X5.out.2.1; have f50 := X5.out.2.2.1; have f51 := X5.out.2.2.2; go_wp2_with fail
        refine step_post nofun ?_
        refine stage_done (by kernel_rfl) ?_
        go_wp2_with fail
        generalize hw6 : World.setCell (World.setCell w5 _ _) _ _ = w6
        have X6 : Hid (w6.cell? ⟨wr.heap.size, 0, none⟩ = some (.slice a5 n5 c5) ∧ w6.cell? ⟨wr.heap.size, 1, none⟩ = some (.int .i64 n5) ∧ w6.frozen? ⟨wr.heap.size, 0, none⟩ = false ∧ w6.frozen? ⟨wr.heap.size, 1, none⟩ = false) := Lib.hid (by
          subst hw6
          refine ⟨?_, World.cell?_setCell_same _ _ _ (by rw [World.cell?_setCell_other _ _ _ _ (by simp)]; exact X5.out.2.1), by rw [World.frozen?_setCell, World.frozen?_setCell]; exact X5.out.2.2.1, by rw [World.frozen?_setCell, World.frozen?_setCell]; exact X5.out.2.2.2⟩
          rw [World.cell?_setCell_other _ _ _ _ (by simp)]
          exact World.cell?_setCell_same _ _ _ X5.out.1)
        have K6 : Hid (Kept w5 w6 (fun k => k = wr.heap.size)) := Lib.hid (by subst hw6; exact (Kept.setCell w5 ⟨wr.heap.size, 0, none⟩ _).trans (Kept.setCell _ ⟨wr.heap.size, 1, none⟩ _))
        have NFO : Hid (¬ Own3 db mb tb wr.heap.size) := Lib.hid (fun e => by have := HLT3.out _ e; omega)
        have S0 : Hid (∀ x, w5.cell? ⟨wr.heap.size, 0, none⟩ ≠ some (.int .u8 x)) := Lib.hid (fun x e => by rw [X5.out.1] at e; cases e)
        have S1 : Hid (∀ y x, (w5.setCell ⟨wr.heap.size, 0, none⟩ y).cell? ⟨wr.heap.size, 1, none⟩ ≠ some (.int .u8 x)) := Lib.hid (fun y x e => by rw [World.cell?_setCell_other _ _ _ _ (by simp), X5.out.2.1] at e; cases e)
        have D5 : Hid (DiskIs w5 db mb tb { D with down := true, armed := -1, files := A ++ f :: BQ }) := Lib.hid (((H1.out.keptOne TC1.out.1 HTC.out K3.out (fun e => NW.out e)).below B4.out).below B5.out)
        have D6 : Hid (DiskIs w6 db mb tb { D with down := true, armed := -1, files := A ++ f :: BQ }) := Lib.hid (by subst hw6; exact (D5.out.setOther _ NFO.out S0.out).setOther _ NFO.out (S1.out _))
        have FI6 : Hid (FileIs w6 db mb tb (.agg #[.slice a5 n5 c5, .int .i64 n5]) ⟨f.name, (f.all.take f.kept ++ tornL (f.all.drop f.kept) th), n5⟩) := Lib.hid (by
          have hlen : (f.all.take f.kept ++ tornL (f.all.drop f.kept) th).length = n5 := by rw [List.length_append]; exact HN5.out
          have hb6 : Bytes w6 (.slice a5 n5 c5) (f.all.take f.kept ++ tornL (f.all.drop f.kept) th) := by subst hw6; exact (HB5.out.setNe _ S0.out).setNe _ (S1.out _)
          refine ⟨a5, c5, by simp only [hlen], by simp only [hlen]; exact hb6, ?_⟩
          rcases HO5.out with ⟨h1, h2⟩ | h2
          · obtain ⟨a2, c2, e1, _, e3⟩ := FI1.out
            cases e1
            rcases e3 with e3 | ⟨g, hg, hn⟩
            · exact absurd e3 HFN.out
            · refine .inr ⟨g, ?_, hn⟩
              simp only [hlen]
              rw [h2, HO1.out]; exact hg
          · refine .inr ⟨_, by simp only [hlen]; exact h2, ?_⟩
            have hx : ∀ k, Own3 db mb tb k → u4.heap.size ≠ k := fun k hk e => by have := HLT3.out _ hk; omega
            exact ⟨hx _ (.inl rfl), hx _ (.inr (.inl rfl)), hx _ (.inr (.inr rfl))⟩)
        have XR : Hid (w6.cell? ⟨db, 0, none⟩ = some (.map (some mb)) ∧ w6.cell? ⟨wr.heap.size, 0, none⟩ = some (.slice a5 n5 c5) ∧ w6.cell? ⟨wr.heap.size, 1, none⟩ = some (.int .i64 n5)) := Lib.hid ⟨D6.out.c0, X6.out.1, X6.out.2.1⟩
        obtain ⟨vals, hmap, hfs⟩ := D6.out.fs
        have MR : Hid (MapIs w6 mb vals (A ++ f :: BQ)) := Lib.hid hmap
        have FS := Lib.hid hfs
        have hcutC := HCUT.out
        clear hw6 hmap hfs x50 x51 f50 f51 hcutC
        refine region_start [0, 1, 3, 7, 0, 0, 63] 0 (fun w' => w'.cell? ⟨db, 0, none⟩ = some (.map (some mb)) ∧ w'.cell? ⟨wr.heap.size, 0, none⟩ = some (.slice a5 n5 c5) ∧ w'.cell? ⟨wr.heap.size, 1, none⟩ = some (.int .i64 n5)) (by kernel_rfl) ?_
        refine stage_heads [0, 1, 2, 3, 4, 5] (by kernel_rfl) (L := #[true, true, true, true, true, true, false]) (by kernel_rfl) (f' := 1) rfl (fun _ _ _ _ h => h) (fun w o h => (((Stable.cell _ _).and ((Stable.cell _ _).and (Stable.cell _ _))).alloc h o)) (.inr XR.out) ?_
        simp only [List.flatMap_cons, List.flatMap_nil, List.drop_succ_cons, List.drop_zero, List.take_succ_cons, List.take_zero, List.cons_append, List.nil_append, List.append_nil]
        iterate 6 (first | (refine heads_load _ (by rfl) (fun w' hs => by obtain ⟨y0, y1, y2⟩ := hs; go_simp; try with_reducible rfl) rfl ?_; simp only [Act.put, List.setIfInBounds_toArray, List.set_cons_zero, List.set_cons_succ]) | (refine heads_pure _ (by rfl) (fun w' => by go_simp; try with_reducible rfl) ?_; simp only [Act.put, List.setIfInBounds_toArray, List.set_cons_zero, List.set_cons_succ]))
        refine heads_nil ?_
        refine stage_op 6 (by kernel_rfl) (L := #[true, true, true, true, true, true, true]) (by kernel_rfl) ?_
        simp only [List.drop_succ_cons, List.drop_zero, List.take_succ_cons, List.take_zero]
        refine wpList_mapUpdate_in _ rfl _ _ _ 81 rfl 9 87 law Tryz.underlying81 contR mb _ _ rfl (by first | exact MR.out | exact World.ownsMap.drew MR.out) (by have := HLN.out; unfold maxLen; omega) _ _ _ rfl rfl HKEY.out (.held (.agg #[.slice a5 n5 c5, .int .i64 n5])) [] (contR_mk _ _ _ _) ?_; intro w7 hown7 hturn7; have O7 := Lib.hid hown7; have T7 : Hid (w6.drew.mapTurned w7 mb) := Lib.hid hturn7; clear hown7 hturn7; go_wp2_with fail
        refine step_post nofun ?_
        refine stage_done (by kernel_rfl) ?_
        have DR : Below w6.heap.size w6 w6.drew := (Below.refl _ _).drew
        have L6 : wr.heap.size < w6.heap.size := Nat.lt_of_lt_of_le L5 K6.out.size
        have D7 : Hid (DiskIs w7 db mb tb { D with down := true, armed := -1, files := A ++ ⟨f.name, (f.all.take f.kept ++ tornL (f.all.drop f.kept) th), n5⟩ :: BQ }) := Lib.hid (by
          have hp : DiskIs w7 db mb tb { D with down := true, armed := -1, files := putFile ⟨f.name, (f.all.take f.kept ++ tornL (f.all.drop f.kept) th), n5⟩ (A ++ f :: BQ) } := DiskIs.put (f := ⟨f.name, (f.all.take f.kept ++ tornL (f.all.drop f.kept) th), n5⟩) (v := .agg #[.slice a5 n5 c5, .int .i64 n5]) (D6.out.below DR) (fun g hg => (FS.out g hg).below DR) O7.out T7.out (FI6.out.below DR)
          rw [put_mid (f' := ⟨f.name, (f.all.take f.kept ++ tornL (f.all.drop f.kept) th), n5⟩) HRS.out rfl] at hp
          exact hp)
        have NFM : Hid (¬ wr.heap.size = mb) := Lib.hid (fun e => NFO.out (.inr (.inl e)))
        have x70 : w7.cell? ⟨wr.heap.size, 0, none⟩ = some (.slice a5 n5 c5) := (Kept.of_turned T7.out).cell X6.out.1 NFM.out
        have HN7 : Hid ((f.all.take f.kept ++ tornL (f.all.drop f.kept) th).length = n5) := Lib.hid (by rw [List.length_append]; exact HN5.out)
        have KR7 : Hid (Kept wr w7 (fun k => Own3 db mb tb k ∨ k = w.heap.size)) := Lib.hid (by
          refine Kept.trans (b := w6) ?_ (((Kept.drew w6 _).trans (Kept.turned3 T7.out)).mono fun k _ h => .inl h)
          refine Kept.stepNew (b := w5) ?_ K6.out (Nat.le_refl _)
          exact (((Kept.of_below B1.out (S := fun k => k = w.heap.size) (fun k h1 h2 => by omega)).trans K3.out).trans ((Kept.of_below B4.out (fun k h1 h2 => by omega)).trans (Kept.of_below B5.out (fun k h1 h2 => by omega)))).mono fun k _ h => .inr h)
        obtain ⟨t3, ht31, ht32, ht33⟩ := TE3.out
        have LT3 : w.heap.size < u3.heap.size := lt_of_block ht31
        have TE7 : Hid (w7.heap[w.heap.size]? = some (.cells #[t3] 64 (0, 0)) ∧ (∃ a n c, t3 = .slice a n c) ∧ TearsIs w7 t3 T.tail ∧ (T.tail = [] ∨ ∀ b, t3.ownBlock = some b → ¬ (Own3 db mb tb b ∨ w.heap.size ≤ b))) := Lib.hid (by
          have k45 : Kept u3 w5 (fun _ => False) := (Kept.of_below B4.out (fun k h1 h2 => by omega)).trans (Kept.of_below B5.out (fun k h1 h2 => by omega))
          have k36 : Kept u3 w6 (fun k => k = wr.heap.size) := k45.andThen K6.out (fun k _ h => h.resolve_left id)
          have k67 : Kept w6 w7 (Own3 db mb tb) := (Kept.drew w6 _).trans (Kept.turned3 T7.out)
          have k37 : Kept u3 w7 (fun k => k = wr.heap.size ∨ Own3 db mb tb k) := k36.andThen k67 (fun k _ h => h)
          refine ⟨(k37.block _ LT3 (fun h => h.elim (fun e => NF.out e.symm) (fun e => NW.out e))).trans ht31, ?_, ht32.kept k37 (ht33.imp id fun h b hb e => h b hb (e.elim (fun e => .inr (by omega)) (fun e => .inl e))), ht33⟩
          obtain ⟨a', c', e, _⟩ := ht32.1.shape
          exact ⟨_, _, _, e⟩)
        have c07 := D7.out.c0
        have ldb7 := D7.out.lt
        clear ht31 ht32 ht33
        by_cases he : (f.all.take f.kept ++ tornL (f.all.drop f.kept) th) = []
        · have hb0 : ((n5 : Int) == 0) = true := by have := HN7.out; rw [he] at this; simp at this; simp [← this]
          have HC1 : Hid (crash1 f T = []) := Lib.hid (by rw [HCR1.out, if_pos he])
          obtain ⟨vals7, hmap, hfs⟩ := D7.out.fs
          have MR7 := Lib.hid hmap
          have FS7 := Lib.hid hfs
          clear hmap hfs he
          go_wp2_with (at_delete; refine wpList_delete_own _ rfl _ _ 81 9 rfl 87 law Tryz.underlying81 contR mb _ _ rfl MR7.out _ _ rfl HKEY.out ?_; intro w8 hown8 hturn8; have O8 := Lib.hid hown8; have T8 := Lib.hid hturn8; clear hown8 hturn8 x70 c07)
          go_roundw
          case rel =>
            have K8 : Kept w7 w8 (Own3 db mb tb) := Kept.turned3 T8.out
            have KR : Kept wr w8 (fun k => Own3 db mb tb k ∨ k = w.heap.size) := KR7.out.trans (K8.mono fun k _ h => .inl h)
            have hd := DiskIs.del (m := f.name) D7.out FS7.out O8.out T8.out
            rw [del_mid (f := ⟨f.name, (f.all.take f.kept ++ tornL (f.all.drop f.kept) th), n5⟩) (by obtain ⟨_, hm, _⟩ := D7.out.fs; exact hm.rising)] at hd
            refine ⟨k + 1, by omega, by go_num, ⟨by rw [HCR.out.1, HC1.out, ← HBQ.out, List.append_nil]; exact hd, ⟨t3, (K8.block _ (lt_of_block TE7.out.1) (fun e => NW.out e)).trans TE7.out.1, TE7.out.2.1, ?_, ?_⟩, NMR.out.kept KR (fun b hb e => HNO.out b hb e), KK.out.andThen KR fun k hk h => h.elim id (fun h => h.elim id (fun h => by omega))⟩⟩
            · rw [HCR.out.2, HT1.out]
              exact TE7.out.2.2.1.kept K8 (TE7.out.2.2.2.imp id fun h b hb e => h b hb (.inl e))
            · rw [HCR.out.2, HT1.out]
              exact TE7.out.2.2.2
          case measure => simp [intOf]; omega
        · have hb0 : ((n5 : Int) == 0) = false := by
            have := HN7.out
            have h0 : n5 ≠ 0 := fun e => he (List.eq_nil_of_length_eq_zero (this.trans e))
            simpa using h0
          have HC1 : Hid (crash1 f T = [⟨f.name, (f.all.take f.kept ++ tornL (f.all.drop f.kept) th), (f.all.take f.kept ++ tornL (f.all.drop f.kept) th).length⟩]) := Lib.hid (by rw [HCR1.out, if_neg he])
          clear he
          go_wp2_with fail
          go_roundw
          case rel =>
            refine ⟨k + 1, by omega, by go_num, ⟨by rw [HCR.out.1, HC1.out, HN7.out, ← HBQ.out, List.append_assoc]; exact D7.out, ⟨t3, TE7.out.1, TE7.out.2.1, ?_, ?_⟩, NMR.out.kept KR7.out (fun b hb e => HNO.out b hb e), KK.out.andThen KR7.out fun k hk h => h.elim id (fun h => h.elim id (fun h => by omega))⟩⟩
            · rw [HCR.out.2, HT1.out]
              exact TE7.out.2.2.1
            · rw [HCR.out.2, HT1.out]
              exact TE7.out.2.2.2
          case measure => simp [intOf]; omega
      · have hgt' : ¬ (f.kept : Int) < (f.all.length : Int) := by omega
        have B1 : Hid (Below wr.heap.size wr (wr.alloc (.cells #[.slice a f.all.length c, .int .i64 f.kept] 87))) := Lib.hid ((Below.refl _ _).alloc (Nat.le_refl _) _)
        have H1 := Lib.hid (HD.out.below B1.out)
        have KR1 : Hid (Kept wr (wr.alloc (.cells #[.slice a f.all.length c, .int .i64 f.kept] 87)) (fun k => Own3 db mb tb k ∨ k = w.heap.size)) := Lib.hid (Kept.of_below B1.out fun k h1 h2 => by omega)
        have HT1 : Hid (tears1 f T = T) := Lib.hid (if_neg hgt)
        by_cases he : f.all = []
        · have hb0 : ((f.all.length : Int) == 0) = true := by simp [he]
          have HC1 : Hid (crash1 f T = []) := Lib.hid (by unfold crash1; rw [if_neg hgt, if_pos he])
          obtain ⟨vals, hmap, hfs⟩ := H1.out.fs
          have MR := Lib.hid hmap
          have FS := Lib.hid hfs
          clear hmap hfs he
          go_wp2_with (at_delete; refine wpList_delete_own _ rfl _ _ 81 9 rfl 87 law Tryz.underlying81 contR mb _ _ rfl MR.out _ _ rfl HKEY.out ?_; intro w5 hown5 hturn5; have O5 := Lib.hid hown5; have T5 := Lib.hid hturn5; clear hown5 hturn5 c0 hnc hrun)
          go_roundw
          case rel =>
            have KR : Kept wr w5 (fun k => Own3 db mb tb k ∨ k = w.heap.size) := KR1.out.trans ((Kept.turned3 T5.out).mono fun k _ h => .inl h)
            have hd := DiskIs.del (m := f.name) H1.out FS.out O5.out T5.out
            rw [del_mid HRS.out] at hd
            refine ⟨k + 1, by omega, by go_num, ⟨by rw [HCR.out.1, HC1.out, ← HBQ.out, List.append_nil]; exact hd, ⟨_, (Kept.turned3 T5.out).block _ (Nat.lt_of_lt_of_le ltc B1.out.size) (fun e => NW.out e) |>.trans ((B1.out.block _ ltc).trans TC.out.1), ⟨_, _, _, rfl⟩, ?_, ?_⟩, NMR.out.kept KR (fun b hb e => HNO.out b hb e), KK.out.andThen KR fun k hk h => h.elim id (fun h => h.elim id (fun h => by omega))⟩⟩
            · rw [HCR.out.2, HT1.out]
              exact TC.out.2.1.kept KR (TC.out.2.2.imp id fun h b hb e => h b hb (e.imp id (fun e => by omega)))
            · rw [HCR.out.2, HT1.out]
              exact TC.out.2.2
          case measure => simp [intOf]; omega
        · have hb0 : ((f.all.length : Int) == 0) = false := by simpa using he
          have HC1 : Hid (crash1 f T = [f]) := Lib.hid (by unfold crash1; rw [if_neg hgt, if_neg he])
          clear he
          go_wp2_with fail
          go_roundw
          case rel =>
            refine ⟨k + 1, by omega, by go_num, ⟨by rw [HCR.out.1, HC1.out, ← HBQ.out, List.append_assoc]; exact H1.out, ⟨_, (B1.out.block _ ltc).trans TC.out.1, ⟨_, _, _, rfl⟩, ?_, ?_⟩, NMR.out.kept KR1.out (fun b hb e => HNO.out b hb e), KK.out.andThen KR1.out fun k hk h => h.elim id (fun h => h.elim id (fun h => by omega))⟩⟩
            · rw [HCR.out.2, HT1.out]
              exact TC.out.2.1.kept KR1.out (TC.out.2.2.imp id fun h b hb e => h b hb (e.imp id (fun e => by omega)))
            · rw [HCR.out.2, HT1.out]
              exact TC.out.2.2
          case measure => simp [intOf]; omega
    · obtain rfl : k = D.files.length := by omega
      go_wp2_with fail
      go_ret
      have hd := I.out.dsk
      rw [List.take_length, List.drop_length, List.append_nil] at hd
      exact ⟨rfl, hd, I.out.kept⟩
end Go.Proofs.YtofhccpagnkalaaGreat

/- Arguments opened, as the walks want them; no conditions. -/
namespace Go.Proofs.YtofhccpagnkalaaGreat
open Go.ChangeShapes Go.WideShapes Go.ChangeAt Go.RowKit Go.Deep Go.Proofs.Own

theorem own : ownKnob Tryz.prog.godebug = none := by kernel_rfl
theorem laid : laidOutB Tryz.prog = true := by kernel_rfl
theorem cellsU8 : Tryz.prog.cellsOf 5 = 1 := by kernel_rfl
theorem cellsInt : Tryz.prog.cellsOf 3 = 1 := by kernel_rfl

theorem open_agg4 {H : Type} {enc : TypeId × Value → H} {P : Program} {w : World} {base : Nat} {spare : Nat → Bool} {held : Bool} {r : Reach} {b0 : Nat} {t : TypeId} {f0 f1 f2 f3 : Field} {v : Value} {d : DataW H} {p : List MemPlace} (hs : P.underlying t = some (.struct #[f0, f1, f2, f3])) (hone : oneCellFields P #[f0, f1, f2, f3] = true) (hC : P.cellsOf t = 4)
    (hv : Value.okWide P w r b0 t v) (h : DataW.Trod enc P w base spare held t v d p) :
    ∃ (v0 v1 v2 v3 : Value) (y0 y1 y2 y3 : DataW H × List MemPlace) (n : Nat), v = .agg #[v0, v1, v2, v3] ∧
      DataW.trod enc P w base spare held n f0.type [v0] = some y0 ∧ DataW.trod enc P w base spare held n f1.type [v1] = some y1 ∧ DataW.trod enc P w base spare held n f2.type [v2] = some y2 ∧ DataW.trod enc P w base spare held n f3.type [v3] = some y3 := by
  obtain ⟨cs, rfl, hsz⟩ := okWide_struct hs hv
  obtain ⟨l⟩ := cs
  match l, hsz.trans hC with
  | [c0, c1, c2, c3], _ =>
    obtain ⟨fuel, hf⟩ := h
    obtain ⟨xs, n, _, hx, _, hlen, hg⟩ := DataW.trod_struct hs hf
    obtain ⟨o0, k0⟩ := hone_of hone 0 f0 rfl
    obtain ⟨o1, k1⟩ := hone_of hone 1 f1 rfl
    obtain ⟨o2, k2⟩ := hone_of hone 2 f2 rfl
    obtain ⟨o3, k3⟩ := hone_of hone 3 f3 rfl
    match xs, hlen with
    | [y0, y1, y2, y3], _ =>
      exact ⟨c0, c1, c2, c3, y0, y1, y2, y3, n, rfl, by simpa [Value.cells, o0, k0] using hg 0 f0 rfl, by simpa [Value.cells, o1, k1] using hg 1 f1 rfl, by simpa [Value.cells, o2, k2] using hg 2 f2 rfl, by simpa [Value.cells, o3, k3] using hg 3 f3 rfl⟩


theorem open_agg2n {H : Type} {enc : TypeId × Value → H} {P : Program} {w : World} {base : Nat} {spare : Nat → Bool} {held : Bool} {r : Reach} {b0 : Nat} {t : TypeId} {f0 f1 : Field} {v : Value} {d : DataW H} {p : List MemPlace} (hs : P.underlying t = some (.struct #[f0, f1])) (hone : oneCellFields P #[f0, f1] = true) (hC : P.cellsOf t = 2)
    (hv : Value.okWide P w r b0 t v) (h : DataW.Trod enc P w base spare held t v d p) :
    ∃ (v0 v1 : Value) (y0 y1 : DataW H × List MemPlace) (n : Nat), v = .agg #[v0, v1] ∧
      DataW.trod enc P w base spare held n f0.type [v0] = some y0 ∧ DataW.trod enc P w base spare held n f1.type [v1] = some y1 := by
  obtain ⟨cs, rfl, hsz⟩ := okWide_struct hs hv
  obtain ⟨l⟩ := cs
  match l, hsz.trans hC with
  | [c0, c1], _ =>
    obtain ⟨fuel, hf⟩ := h
    obtain ⟨xs, n, _, hx, _, hlen, hg⟩ := DataW.trod_struct hs hf
    obtain ⟨o0, k0⟩ := hone_of hone 0 f0 rfl
    obtain ⟨o1, k1⟩ := hone_of hone 1 f1 rfl
    match xs, hlen with
    | [y0, y1], _ =>
      exact ⟨c0, c1, y0, y1, n, rfl, by simpa [Value.cells, o0, k0] using hg 0 f0 rfl, by simpa [Value.cells, o1, k1] using hg 1 f1 rfl⟩


section
variable {H : Type} {enc : TypeId × Value → H} {W : World}
/-- A slice of bytes. -/
def BytesArg (W : World) (v : Value) : Prop := ∃ (a : Option Addr) (n c : Nat), v = .slice a n c ∧ (n ≤ 2097152 → ∃ l, l.length = n ∧ Bytes W v l)
theorem open_bytes1 {fuel : Nat} {v : Value} {x : DataW H × List MemPlace} (hf : DataW.trod enc Tryz.prog W 0 (fun _ => true) true fuel 22 [v] = some x) : BytesArg W v := by
  rcases open_slice1 Tryz.underlying22 cellsU8 hf with ⟨hcs, _⟩ | ⟨a, len, cap, m, k, V, D, Pl, hcs, _, hl, hm, hmm, _, hi⟩
  · obtain rfl : v = .slice none 0 0 := by simpa using hcs
    exact ⟨_, _, _, rfl, fun _ => ⟨[], rfl, Bytes.nil W⟩⟩
  · obtain rfl : v = .slice (some a) len cap := by simpa using hcs
    have hm' : m = cap := by simpa using hmm
    subst hm'
    refine ⟨_, _, _, rfl, fun hn => ?_⟩
    have cell : ∀ i, i < len → ∃ x : Nat, W.cell? (a.add i) = some (.int .u8 x) ∧ x < 256 := by
      intro i hi'
      obtain ⟨hc, ht⟩ := hi i (by omega)
      obtain ⟨z, ez, _, wz⟩ := DataW.trod_int Tryz.underlying5 ht
      obtain hz : V i = .int .u8 z := by simpa using ez
      have hr : 0 ≤ z ∧ z < 256 := by
        simp only [Lit.wf, Bool.and_eq_true, decide_eq_true_eq] at wz
        have h0 : IntKind.min .u8 = 0 := by decide
        have h1 : IntKind.max .u8 = 255 := by decide
        rw [h0, h1] at wz
        omega
      exact ⟨z.toNat, by rw [hc, hz, Int.toNat_of_nonneg hr.1], by omega⟩
    by_cases hz0 : len = 0
    · subst hz0
      exact ⟨[], rfl, ⟨⟨_, _, rfl, hl⟩, Reads.nil _ _ _ _, by simp, by simp⟩⟩
    obtain ⟨X, hX⟩ : ∃ X : Nat → Nat, ∀ i, i < len → W.cell? (a.add i) = some (.int .u8 (X i)) ∧ X i < 256 :=
      ⟨fun i => if h : i < len then Classical.choose (cell i h) else 0, fun i h => by simp only [dif_pos h]; exact Classical.choose_spec (cell i h)⟩
    have ha : a = ⟨a.block, a.off, none⟩ := spot_none (hX 0 (by omega)).1
    have hlen : ((List.range len).map X).length = len := by simp
    refine ⟨(List.range len).map X, hlen, ⟨some a, m, by rw [hlen], by rw [hlen]; exact hl⟩, ⟨some a, m, by rw [length_ints, hlen], fun j hj => ⟨a.block, a.off, congrArg some ha, ?_⟩⟩, ?_, by rw [hlen]; omega⟩
    · have hj' : j < len := by rw [length_ints, hlen] at hj; exact hj
      rw [← addr_add a a.block a.off j ha, (hX j hj').1, ints_at]
      simp
    · intro x hx
      simp only [List.mem_map, List.mem_range] at hx
      obtain ⟨i, hi', rfl⟩ := hx
      exact (hX i hi').2
/-- A slice of integers. -/
def IntsArg (W : World) (v : Value) : Prop := ∃ (a : Option Addr) (n c : Nat), v = .slice a n c ∧ (n ≤ 2097152 → ∃ l, l.length = n ∧ Ints W v l)
theorem open_ints1 {fuel : Nat} {v : Value} {x : DataW H × List MemPlace} (hf : DataW.trod enc Tryz.prog W 0 (fun _ => true) true fuel 38 [v] = some x) : IntsArg W v := by
  rcases open_slice1 Tryz.underlying38 cellsInt hf with ⟨hcs, _⟩ | ⟨a, len, cap, m, k, V, D, Pl, hcs, _, hl, hm, hmm, _, hi⟩
  · obtain rfl : v = .slice none 0 0 := by simpa using hcs
    exact ⟨_, _, _, rfl, fun _ => ⟨[], rfl, Ints.nil W⟩⟩
  · obtain rfl : v = .slice (some a) len cap := by simpa using hcs
    have hm' : m = cap := by simpa using hmm
    subst hm'
    refine ⟨_, _, _, rfl, fun hn => ?_⟩
    have cell : ∀ i, i < len → ∃ x : Int, W.cell? (a.add i) = some (.int .i64 x) := by
      intro i hi'
      obtain ⟨hc, ht⟩ := hi i (by omega)
      obtain ⟨z, ez, _, wz⟩ := DataW.trod_int Tryz.underlying3 ht
      obtain hz : V i = .int .i64 z := by simpa using ez
      exact ⟨z, by rw [hc, hz]⟩
    by_cases hz0 : len = 0
    · subst hz0
      exact ⟨[], rfl, ⟨⟨_, _, rfl, hl⟩, Reads.nil _ _ _ _, by simp⟩⟩
    obtain ⟨X, hX⟩ : ∃ X : Nat → Int, ∀ i, i < len → W.cell? (a.add i) = some (.int .i64 (X i)) :=
      ⟨fun i => if h : i < len then Classical.choose (cell i h) else 0, fun i h => by simp only [dif_pos h]; exact Classical.choose_spec (cell i h)⟩
    have ha : a = ⟨a.block, a.off, none⟩ := spot_none (hX 0 (by omega))
    have hlen : ((List.range len).map X).length = len := by simp
    refine ⟨(List.range len).map X, hlen, ⟨some a, m, by rw [hlen], by rw [hlen]; exact hl⟩, ⟨some a, m, by rw [hlen], fun j hj => ⟨a.block, a.off, congrArg some ha, ?_⟩⟩, by rw [hlen]; omega⟩
    have hj' : j < len := by rw [hlen] at hj; exact hj
    rw [← addr_add a a.block a.off j ha, hX j hj']
    simp
/-- A snapshot. -/
def SnapArg (W : World) (v : Value) : Prop := ∃ (i t : Int) (am : Option Addr) (nm cm : Nat) (ad : Option Addr) (nd cd : Nat), v = .agg #[.int .u64 i, .int .u64 t, .slice am nm cm, .slice ad nd cd] ∧
  (nm ≤ 2097152 → ∃ l, l.length = nm ∧ Ints W (.slice am nm cm) l) ∧ (nd ≤ 2097152 → ∃ l, l.length = nd ∧ Bytes W (.slice ad nd cd) l)
set_option maxRecDepth 100000 in
theorem open_snap {base : Nat} {v : Value} {d : DataW H} {ps : List MemPlace} (hv : Value.okWide Tryz.prog W .any base 40 v)
    (h : DataW.Trod enc Tryz.prog W 0 (fun _ => true) true 40 v d ps) : SnapArg W v := by
  obtain ⟨v0, v1, v2, v3, y0, y1, y2, y3, n, rfl, h0, h1, h2, h3⟩ := open_agg4 Tryz.underlying40 (by kernel_rfl) (by kernel_rfl) hv h
  obtain ⟨z0, e0, _, wf0⟩ := DataW.trod_int Tryz.underlying27 h0
  obtain rfl : v0 = .int .u64 z0 := by simpa using e0
  obtain ⟨z1, e1, _, wf1⟩ := DataW.trod_int Tryz.underlying27 h1
  obtain rfl : v1 = .int .u64 z1 := by simpa using e1
  obtain ⟨am, nm, cm, rfl, hm⟩ := open_ints1 h2
  obtain ⟨ad, nd, cd, rfl, hd⟩ := open_bytes1 h3
  exact ⟨z0, z1, am, nm, cm, ad, nd, cd, rfl, hm, hd⟩
/-- It is one that is not too great. -/
theorem SnapArg.is {i t : Int} {am ad : Option Addr} {nm cm nd cd : Nat} (h : SnapArg W (.agg #[.int .u64 i, .int .u64 t, .slice am nm cm, .slice ad nd cd])) (h1 : nm ≤ 2097152) (h2 : nd ≤ 2097152) :
    ∃ ms d, ms.length = nm ∧ d.length = nd ∧ SnapIs W (.agg #[.int .u64 i, .int .u64 t, .slice am nm cm, .slice ad nd cd]) ⟨i, t, ms, d⟩ := by
  obtain ⟨i', t', am', nm', cm', ad', nd', cd', e, hm, hd⟩ := h
  simp only [Value.agg.injEq, Array.mk.injEq, List.cons.injEq, Value.int.injEq, Value.slice.injEq, true_and, and_true] at e
  obtain ⟨rfl, rfl, ⟨rfl, rfl, rfl⟩, ⟨rfl, rfl, rfl⟩⟩ := e
  obtain ⟨ms, l1, m1⟩ := hm h1
  obtain ⟨d, l2, m2⟩ := hd h2
  exact ⟨ms, d, l1, l2, _, _, rfl, m1, m2⟩
end
end Go.Proofs.YtofhccpagnkalaaGreat
