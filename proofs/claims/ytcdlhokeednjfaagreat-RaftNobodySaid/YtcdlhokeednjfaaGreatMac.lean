/- Steps of a walk over a frame F at the world w, each by one word; no conditions. -/
import Derived.Test.YtcdlhokeednjfaaGreatFrm
namespace Go.Proofs.Own
open Go Go.RowKit

theorem sz_set {w v : World} {a : Addr} {x : Value} {n : Nat} (e : w.setCell a x = v) (h : w.heap.size = n) : v.heap.size = n := by subst e; rw [World.size_setCell]; exact h
theorem sz_alloc {w v : World} {o : Obj} {n : Nat} (e : w.alloc o = v) (h : w.heap.size = n) : v.heap.size = n + 1 := by subst e; rw [World.size_alloc, h]
theorem sz_drew {w v : World} {n : Nat} (e : w.drew = v) (h : w.heap.size = n) : v.heap.size = n := e ▸ h
-- one step of the world, marked
def setQ (w : World) (a : Addr) (x : Value) : World := w.setCell a x
def allocQ (w : World) (o : Obj) : World := w.alloc o
def drewQ (w : World) : World := w.drew
theorem setQ_eq (w : World) (a : Addr) (x : Value) : w.setCell a x = setQ w a x := rfl
theorem allocQ_eq (w : World) (o : Obj) : w.alloc o = allocQ w o := rfl
theorem drewQ_eq (w : World) : w.drew = drewQ w := rfl
/-- All cells of the boxes, and what stands beside them. -/
theorem fx {p q : Prop} (k : q → p) (h : q := by have C := And.intro F.facts F.r; simp only [fS, fO, Nat.zero_add, Nat.reduceAdd, and_true, true_and] at C; exact C) : p := k h
/-- Behind stores and new boxes (one at least): F and its cells anew, at a new letter w. -/
theorem stq {p q : Prop} (k : q) (h : q → p := by
    intro k
    have E := Eq.refl w.heap.size
    (first
      | (rw [setQ_eq w]
         generalize hW : setQ w _ _ = w
         first | replace F := F.u 0 rfl hW | replace F := F.u 1 rfl hW | replace F := F.u 2 rfl hW | replace F := F.u 3 rfl hW | replace F := F.u 4 rfl hW | replace F := F.u 5 rfl hW | replace F := F.u 6 rfl hW
         try dsimp only [List.set_cons_zero, List.set_cons_succ] at F
         replace E := sz_set hW E
         clear hW)
      | (rw [allocQ_eq w]
         generalize hW : allocQ w _ = w
         first | replace F := F.snoc E hW | replace F := F.grow hW
         replace E := sz_alloc hW E
         clear hW)
      | (rw [drewQ_eq w]
         generalize hW : drewQ w = w
         replace F := F.drew hW
         replace E := sz_drew hW E
         clear hW))
    repeat (first
      | (rw [setQ_eq w]
         generalize hW : setQ w _ _ = w
         first | replace F := F.u 0 rfl hW | replace F := F.u 1 rfl hW | replace F := F.u 2 rfl hW | replace F := F.u 3 rfl hW | replace F := F.u 4 rfl hW | replace F := F.u 5 rfl hW | replace F := F.u 6 rfl hW
         try dsimp only [List.set_cons_zero, List.set_cons_succ] at F
         replace E := sz_set hW E
         clear hW)
      | (rw [allocQ_eq w]
         generalize hW : allocQ w _ = w
         first | replace F := F.snoc E hW | replace F := F.grow hW
         replace E := sz_alloc hW E
         clear hW)
      | (rw [drewQ_eq w]
         generalize hW : drewQ w = w
         replace F := F.drew hW
         replace E := sz_drew hW E
         clear hW))
    clear E
    try simp only [fS] at F
    have C := And.intro F.facts F.r
    simp only [fS, fO, Nat.zero_add, Nat.reduceAdd, and_true, true_and] at C
    revert C
    revert F
    revert w
    exact k) : p := h k
/-- The end of a call whose results lie in boxes, and the walk to it; all that it tells stands (HV: what it is, if that wants to be told). hr: the function's results. -/
theorem ed {p : Prop} {α : Type} {f g : α} (hr : f = g) (h : f = g → p := by
    intro hr
    have C := And.intro F.facts F.r
    simp only [fS, fO, Nat.zero_add, Nat.reduceAdd, and_true, true_and] at C
    go_wp2_with (refine stq ?_; clear C; intro w F C)
    refine bodyPost_ret (by simp only [results, hr]; go_simp; rfl) rfl ?_
    clear C
    try rw [HV.out]
    first | exact ⟨_, _, rfl, F.fin (fun _ h => h), F.bel⟩ | exact ⟨_, _, rfl, F.fin (fun _ h => h.1), F.bel⟩ | exact ⟨_, _, rfl, F.fin (fun _ h => h.2), F.bel⟩ | exact ⟨rfl, F.fin (fun _ h => h), F.bel⟩ | exact ⟨rfl, F.fin (fun _ h => h.1), F.bel⟩ | exact ⟨rfl, F.bel⟩) : p := h hr
/-- .. told by hand. -/
theorem rt {p q : Prop} {α : Type} {f g : α} (hr : f = g) (k : q) (h : f = g → q → p := by
    intro hr k
    have C := And.intro F.facts F.r
    simp only [fS, fO, Nat.zero_add, Nat.reduceAdd, and_true, true_and] at C
    refine bodyPost_ret (by simp only [results, hr]; go_simp; rfl) rfl ?_
    clear C
    exact k) : p := h hr k
/-- A region that draws its order: begun, and walked up to its end or to a call. x: what plan2.py tells of it. -/
theorem rg {p q : Prop} {M : List Nat} {J : Nat} {st : List Stg} {m : List Bool} (x : Pm M J st m) (k : q) (h : Pm M J st m → q → p := by
    intro x k
    refine F.region x (by kernel_rfl) (by kernel_rfl) (fun _ _ _ _ h => h) ?_
    intro w F
    repeat (first
      | (rw [setQ_eq w]
         generalize hW : setQ w _ _ = w
         first | replace F := F.u 0 rfl hW | replace F := F.u 1 rfl hW | replace F := F.u 2 rfl hW | replace F := F.u 3 rfl hW | replace F := F.u 4 rfl hW | replace F := F.u 5 rfl hW | replace F := F.u 6 rfl hW
         try dsimp only [List.set_cons_zero, List.set_cons_succ] at F
         clear hW)
      | (rw [drewQ_eq w]
         generalize hW : drewQ w = w
         replace F := F.drew hW
         clear hW)
      | (refine heads_load _ (by rfl) (fun w' hs => by have C := factsF_of hs.box; have D := hs.saf.now; simp only [mK, fO, Nat.zero_add, Nat.reduceAdd, and_true] at C; go_simp; try with_reducible rfl) rfl ?_
         simp only [Act.put, sZ])
      | (refine heads_pure _ (by rfl) (fun w' => by go_simp; try with_reducible rfl) ?_
         simp only [Act.put, sZ])
      | (refine heads_skip (by rfl) ?_
         simp only [Act.put, sZ])
      | refine heads_nil ?_
      | (refine plan_h (.inr F.rg) ?_
         simp only [sX, sY])
      | (refine plan_h (.inl (by decide +kernel)) ?_
         simp only [sX, sY])
      | (with_reducible refine plan_post ?_ ?_
         · first | (intro h; exact absurd h (by decide)) | (intro _; exact F.rg))
      | (refine plan_o ?_
         simp only [sX, sY]
         have C := F.facts
         simp only [fS, fO, Nat.zero_add, Nat.reduceAdd, and_true, true_and] at C
         go_wp2_with fail
         clear C
         repeat (rw [setQ_eq w]
                 generalize hW : setQ w _ _ = w
                 first | replace F := F.u 0 rfl hW | replace F := F.u 1 rfl hW | replace F := F.u 2 rfl hW | replace F := F.u 3 rfl hW | replace F := F.u 4 rfl hW | replace F := F.u 5 rfl hW | replace F := F.u 6 rfl hW
                 clear hW)
         refine plan_post (by first | (intro h; exact absurd h (by decide)) | (intro _; exact F.rg)) ?_)
      | refine plan_nil ?_)
    try (refine plan_o ?_; simp only [sX, sY])
    try simp only [fS] at F
    have C := And.intro F.facts F.r
    simp only [fS, fO, Nat.zero_add, Nat.reduceAdd, and_true, true_and] at C
    revert C
    revert F
    revert w
    exact k) : p := h x k
/-- .. behind a call in it (ahead of it: 'revert w', so that F goes too). -/
theorem rc {p q : Prop} (k : q) (h : q → p := by
    intro k w F
    repeat (first
      | (rw [setQ_eq w]
         generalize hW : setQ w _ _ = w
         first | replace F := F.u 0 rfl hW | replace F := F.u 1 rfl hW | replace F := F.u 2 rfl hW | replace F := F.u 3 rfl hW | replace F := F.u 4 rfl hW | replace F := F.u 5 rfl hW | replace F := F.u 6 rfl hW
         try dsimp only [List.set_cons_zero, List.set_cons_succ] at F
         clear hW)
      | (rw [drewQ_eq w]
         generalize hW : drewQ w = w
         replace F := F.drew hW
         clear hW)
      | (refine heads_load _ (by rfl) (fun w' hs => by have C := factsF_of hs.box; have D := hs.saf.now; simp only [mK, fO, Nat.zero_add, Nat.reduceAdd, and_true] at C; go_simp; try with_reducible rfl) rfl ?_
         simp only [Act.put, sZ])
      | (refine heads_pure _ (by rfl) (fun w' => by go_simp; try with_reducible rfl) ?_
         simp only [Act.put, sZ])
      | (refine heads_skip (by rfl) ?_
         simp only [Act.put, sZ])
      | refine heads_nil ?_
      | (refine plan_h (.inr F.rg) ?_
         simp only [sX, sY])
      | (refine plan_h (.inl (by decide +kernel)) ?_
         simp only [sX, sY])
      | (with_reducible refine plan_post ?_ ?_
         · first | (intro h; exact absurd h (by decide)) | (intro _; exact F.rg))
      | (refine plan_o ?_
         simp only [sX, sY]
         have C := F.facts
         simp only [fS, fO, Nat.zero_add, Nat.reduceAdd, and_true, true_and] at C
         go_wp2_with fail
         clear C
         repeat (rw [setQ_eq w]
                 generalize hW : setQ w _ _ = w
                 first | replace F := F.u 0 rfl hW | replace F := F.u 1 rfl hW | replace F := F.u 2 rfl hW | replace F := F.u 3 rfl hW | replace F := F.u 4 rfl hW | replace F := F.u 5 rfl hW | replace F := F.u 6 rfl hW
                 clear hW)
         refine plan_post (by first | (intro h; exact absurd h (by decide)) | (intro _; exact F.rg)) ?_)
      | refine plan_nil ?_)
    try (refine plan_o ?_; simp only [sX, sY])
    try simp only [fS] at F
    have C := And.intro F.facts F.r
    simp only [fS, fO, Nat.zero_add, Nat.reduceAdd, and_true, true_and] at C
    revert C
    revert F
    revert w
    exact k) : p := h k
end Go.Proofs.Own
