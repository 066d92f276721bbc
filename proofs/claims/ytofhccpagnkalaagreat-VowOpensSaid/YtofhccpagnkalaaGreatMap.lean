/- Files as a sorted row, and the map that reads as it; no conditions. -/
import Derived.Test.YtofhccpagnkalaaGreatMeter
import Derived.Maps.Ext
import Derived.Maps.OwnSet
namespace Go.Proofs.YtofhccpagnkalaaGreat
open Go.RowKit Go.Maps Go.Proofs.Own Go.ChangeMaps

structure FileS where
  name : ByteArray
  all : List Nat
  kept : Nat
def keyL (n : ByteArray) : Lit := .string n.data.toList
def nameLt (a b : ByteArray) : Bool := bytesBefore a.data.toList b.data.toList
def insFile (f : FileS) : List FileS → List FileS
  | [] => [f]
  | g :: r => if nameLt f.name g.name then f :: g :: r else g :: insFile f r
def delFile (n : ByteArray) (L : List FileS) : List FileS := L.filter fun g => !(decide (g.name = n))
def putFile (f : FileS) (L : List FileS) : List FileS := insFile f (delFile f.name L)
def findFile (n : ByteArray) (L : List FileS) : Option FileS := L.find? fun g => decide (g.name = n)

theorem keyL_inj {a b : ByteArray} (h : keyL a = keyL b) : a = b := by
  cases a; cases b
  simp only [keyL, Lit.string.injEq] at h
  congr
  exact Array.toList_inj.1 h
theorem sameKey_keyL (a b : ByteArray) : (keyL a).sameKey (keyL b) = decide (a = b) := by
  by_cases h : a = b
  · subst h; simp [keyL, Lit.sameKey]
  · rw [decide_eq_false h]
    exact Maps.sameKey_ne fun e => h (keyL_inj e)
/-- What a map of files reads as: each key's element is its value. -/
def ent (vals : ByteArray → Value) (f : FileS) : Lit × DataW Value := (keyL f.name, .held (vals f.name))
def dat (vals : ByteArray → Value) (L : List FileS) : DataW Value := .map (L.map (ent vals))
def upd (vals : ByteArray → Value) (n : ByteArray) (v : Value) : ByteArray → Value := fun m => if m = n then v else vals m
theorem upd_same (vals : ByteArray → Value) (n : ByteArray) (v : Value) : upd vals n v n = v := if_pos rfl
theorem upd_other (vals : ByteArray → Value) {n m : ByteArray} (v : Value) (h : m ≠ n) : upd vals n v m = vals m := if_neg h
theorem filter_ent (vals : ByteArray → Value) (n : ByteArray) (L : List FileS) : (L.map (ent vals)).filter (fun p => !p.1.sameKey (keyL n)) = (delFile n L).map (ent vals) := by
  unfold delFile
  rw [List.filter_map]
  congr 1
  refine List.filter_congr fun f _ => ?_
  simp only [Function.comp, ent, sameKey_keyL]
theorem ent_upd (vals : ByteArray → Value) (n : ByteArray) (v : Value) (L : List FileS) : (delFile n L).map (ent (upd vals n v)) = (delFile n L).map (ent vals) := by
  refine List.map_congr_left fun f hf => ?_
  have h : f.name ≠ n := by
    have := (List.mem_filter.1 hf).2
    simpa using this
  simp only [ent, upd_other vals v h]
theorem insert_ent (vals : ByteArray → Value) (f : FileS) : ∀ L : List FileS, DataW.insert (ent vals f) (L.map (ent vals)) = (insFile f L).map (ent vals)
  | [] => rfl
  | g :: r => by
    have e : (ent vals f).1.before (ent vals g).1 = nameLt f.name g.name := rfl
    rw [List.map_cons, DataW.insert, e, insFile]
    split
    · rfl
    · rw [insert_ent vals f r]; rfl
theorem dat_put (vals : ByteArray → Value) (f : FileS) (v : Value) (L : List FileS) : (dat vals L).put (keyL f.name) (.held v) = dat (upd vals f.name v) (putFile f L) := by
  unfold dat putFile DataW.put
  simp only
  rw [filter_ent, ← ent_upd vals f.name v, ← insert_ent]
  simp only [ent, upd_same]
theorem dat_del (vals : ByteArray → Value) (n : ByteArray) (L : List FileS) : (dat vals L).del (keyL n) = dat vals (delFile n L) := by
  unfold dat DataW.del
  simp only
  rw [filter_ent]
theorem dat_has (vals : ByteArray → Value) (n : ByteArray) (L : List FileS) : Maps.has (dat vals L) (keyL n) = (findFile n L).isSome := by
  unfold dat findFile
  rw [Maps.has_eq, List.any_map]
  induction L with
  | nil => rfl
  | cons f L ih =>
    rw [List.any_cons, List.find?_cons, ih]
    simp only [Function.comp, ent, sameKey_keyL]
    cases decide (f.name = n) <;> rfl
theorem dat_at (vals : ByteArray → Value) (n : ByteArray) (z : DataW Value) (L : List FileS) : (dat vals L).atKey (keyL n) z = match findFile n L with | some _ => .held (vals n) | none => z := by
  unfold dat findFile DataW.atKey
  simp only
  induction L with
  | nil => rfl
  | cons f L ih =>
    rw [List.map_cons, List.find?_cons, List.find?_cons]
    simp only [ent, sameKey_keyL]
    by_cases h : f.name = n
    · simp [h]
    · simp only [decide_eq_false h]
      exact ih
theorem dat_size (vals : ByteArray → Value) (L : List FileS) : Maps.size (dat vals L) = L.length := by
  unfold dat
  rw [Maps.size_eq, List.length_map]
theorem find_name {n : ByteArray} {L : List FileS} {f : FileS} (h : findFile n L = some f) : f.name = n ∧ f ∈ L := ⟨by have := List.find?_some h; simpa using this, List.mem_of_find?_eq_some h⟩
theorem mem_ins {f g : FileS} : ∀ {L : List FileS}, g ∈ insFile f L ↔ g = f ∨ g ∈ L
  | [] => by simp [insFile]
  | x :: r => by
    rw [insFile]
    split
    · simp
    · rw [List.mem_cons, mem_ins (L := r), List.mem_cons]
      constructor
      · rintro (h | h | h)
        · exact .inr (.inl h)
        · exact .inl h
        · exact .inr (.inr h)
      · rintro (h | h | h)
        · exact .inr (.inl h)
        · exact .inl h
        · exact .inr (.inr h)
theorem mem_del {n : ByteArray} {g : FileS} {L : List FileS} : g ∈ delFile n L ↔ g ∈ L ∧ g.name ≠ n := by
  unfold delFile
  rw [List.mem_filter]
  simp
theorem mem_put {f g : FileS} {L : List FileS} : g ∈ putFile f L ↔ g = f ∨ (g ∈ L ∧ g.name ≠ f.name) := by
  unfold putFile
  rw [mem_ins, mem_del]

/-- Elements that are a file's value. -/
def IsCont (v : Value) : Prop := ∃ a n c k, v = .agg #[.slice a n c, .int .i64 k]
noncomputable def contR (v : Value) : Option (DataW Value × List MemPlace) := @ite _ (IsCont v) (Classical.propDecidable _) (some (.held v, [])) none
theorem contR_mk (a : Option Addr) (n c : Nat) (k : Int) : contR (.agg #[.slice a n c, .int .i64 k]) = some (.held (.agg #[.slice a n c, .int .i64 k]), []) := if_pos ⟨_, _, _, _, rfl⟩
theorem contR_inv {v : Value} {y : DataW Value × List MemPlace} (h : contR v = some y) : IsCont v ∧ y = (.held v, []) := by
  unfold contR at h
  by_cases hc : IsCont v
  · rw [if_pos hc] at h
    cases h
    exact ⟨hc, rfl⟩
  · rw [if_neg hc] at h
    cases h

/-- Block mb is the map of the files L, whose values are vals. -/
def MapIs (w : World) (mb : Nat) (vals : ByteArray → Value) (L : List FileS) : Prop := w.ownsMap Tryz.prog 9 contR mb L.length (dat vals L)
theorem ownsMap_len {w : World} {mb n : Nat} {vals : ByteArray → Value} {L : List FileS} (h : w.ownsMap Tryz.prog 9 contR mb n (dat vals L)) : MapIs w mb vals L := by
  obtain ⟨es, clock, hb, F, _, hD⟩ := h
  refine ⟨es, clock, hb, F, ?_, hD⟩
  have h1 : Maps.size (dat vals L) = es.size := by rw [hD]; simp [Maps.size, length_sorted]
  rw [dat_size] at h1
  omega
theorem MapIs.lt {w : World} {mb : Nat} {vals : ByteArray → Value} {L : List FileS} (h : MapIs w mb vals L) : mb < w.heap.size := World.ownsMap.lt h
theorem MapIs.kept {w w' : World} {mb : Nat} {vals : ByteArray → Value} {L : List FileS} {S : Nat → Prop} (h : MapIs w mb vals L) (hk : Kept w w' S) (hs : ¬ S mb) : MapIs w' mb vals L := by
  have hl := h.lt
  obtain ⟨es, clock, hb, F, hn, hD⟩ := h
  exact ⟨es, clock, by rw [hk.block mb hl hs]; exact hb, F, hn, hD⟩
theorem MapIs.below {w w' : World} {mb : Nat} {vals : ByteArray → Value} {L : List FileS} (h : MapIs w mb vals L) (hb : Below w.heap.size w w') : MapIs w' mb vals L :=
  h.kept (Kept.of_below hb (S := fun _ => False) fun k h1 h2 => by omega) fun h => h
theorem Kept.of_turned {w w' : World} {b : Nat} (h : w.mapTurned w' b) : Kept w w' (fun k => k = b) := (Kept.of_grown h.grown).mono fun _k _ e => (Option.some.inj e).symm
theorem law : Keyed Tryz.prog 9 := string_keyed Tryz.underlying9
theorem keyOf_name {n : ByteArray} (h : n.size ≤ maxLen) : keyOf Tryz.prog 9 (.string n) = some (keyL n) := by simp [keyOf, Tryz.underlying9, mapKey, h, keyL]
theorem zeroC (w : World) : (zeroValue 87).run Tryz.prog w = .ok (.agg #[.slice none 0 0, .int .i64 0]) w := by kernel_rfl
end Go.Proofs.YtofhccpagnkalaaGreat
