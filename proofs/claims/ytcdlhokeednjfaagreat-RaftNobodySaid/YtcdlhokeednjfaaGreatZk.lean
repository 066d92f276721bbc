/- A runner: steps of the machine; over any program; no conditions. -/
import Derived.Test.YtcdlhokeednjfaaGreatZj
import Derived.Scope
import Derived.LoopN
namespace Go.Proofs.Rn
open Go Go.RowKit Go.Proofs.Own

/-- The plan of a region: heads, one operation, or one of two that may come up next. -/
inductive PT where
  | nil
  | h (H : List Nat) (r : PT)
  | o (j : Nat) (r : PT)
  | w (i j : Nat) (r q : PT)
/-- What is known of a region that draws its order. -/
structure Pl where
  M : List Nat
  J : Nat
  st : PT
def planB (l : List Oper) (M : List Nat) (J : Nat) : PT → Array Bool → Bool
  | .nil, L => (Region.ready .any l.toArray L).isEmpty
  | .h H r, L => stageB l.toArray M J L H && planB l M J r (H.foldl (fun b i => b.setIfInBounds i true) L)
  | .o j r, L => (Region.ready .any l.toArray L == [j]) && planB l M J r (L.setIfInBounds j true)
  | .w i j r q, L => (Region.ready .any l.toArray L == [i, j]) && planB l M J r (L.setIfInBounds i true) && planB l M J q (L.setIfInBounds j true)
def planN : PT → Nat
  | .nil => 0
  | .h H r => planN r + H.length
  | .o _ r => planN r + 1
  | .w _ _ r _ => planN r + 1
def planE : PT → Bool
  | .nil => true
  | .h _ r => planE r
  | .o _ r => planE r
  | .w _ _ r q => planE r && planE q && decide (planN r = planN q)
inductive Ex where
  | n | exit (id : Nat) | goto (l : Nat) | ret
def Ex.out : Ex → Exit
  | .n => .normal
  | .exit id => .exit id
  | .goto l => .goto l
  | .ret => .ret
/-- A function: its text, and its regions' plans. -/
structure FI where
  fn : Func
  pls : List (Nat × Pl)
def plsGet : List (Nat × Pl) → Nat → Option Pl
  | [], _ => none
  | (i, p) :: l, n => match Nat.beq i n with
    | true => some p
    | false => plsGet l n
structure Ac where
  tm : Tr V
  nt : Nat
  pls : List (Nat × Pl)
inductive Cf where
  | code (c : Code)
  | ops (l r : List Oper)
  | pl (l : List Oper) (p : Pl) (st : PT) (fz : List (Nat × Nat × Nat)) (ok : Bool)
  | pw (l : List Oper) (p : Pl) (j : Nat) (r : PT) (fz : List (Nat × Nat × Nat)) (ok : Bool)
  | ex (e : Ex)
inductive KF where
  | seq (c : Code)
  | lp (c : Code)
  | blk (id : Nat)
  | sc
  | fr (dst : Option Tmp) (cf : Cf) (a : Ac) (fn : Func) (fz : List (Nat × Nat × Nat))
inductive Rs where
  | fin (e : Ex) (a : Ac) (h : Hp)
  | bad
  | go (c : Cf) (a : Ac) (h : Hp) (k : List KF)
  | two (c d : Cf) (a : Ac) (h : Hp) (k : List KF)
def Ac.ev (a : Ac) : Operand → V
  | .tmp t => match a.tm.get t with
    | some v => v
    | none => .o undef
  | .const v => constV v
  | .global g => .o (.pointer (some ⟨g, 0, none⟩))
  | .func f => .f (.func f) [] []
def Ac.put (a : Ac) (d : Option Tmp) (v : V) : Ac := match d with
  | some k => match Nat.blt k a.nt with
    | true => ⟨a.tm.put k v, a.nt, a.pls⟩
    | false => a
  | none => a
def wantV (l : List Oper) (a : Ac) (o : Oper) : Option Bool := match o.guard with
  | none => some true
  | some (j, b) => match lget l j with
    | some g => match g.dst with
      | some d => match a.tm.get d with
        | some (.b x) => match Nat.blt d a.nt with
          | true => some (x == b)
          | false => none
        | some (.o (.tuple _)) => some false
        | none => some false
        | _ => none
      | none => none
    | none => none
def callV (a : Ac) : Op → Option (FuncId × List V)
  | .call c => match c.callee with
    | .value f => match a.ev f with
      | .f (.func g) x y => some (g, x ++ c.args.toList.map a.ev ++ y)
      | _ => none
    | _ => none
  | _ => none
def argsT : List V → Nat → Tr V → Tr V
  | [], _, t => t
  | a :: l, i, t => argsT l (i + 1) (t.put i a)
def oneN : Nat → Nat
  | 0 => 1
  | n => n
/-- What a reading operation reads. -/
def touch (tt : TypeId → Option TJ) (a : Ac) : Op → Option (Nat × Nat × Nat)
  | .load t x => match a.ev x, tt t with
    | .p b o, some i => some (b, o, o + oneN i.n)
    | _, _ => none
  | .lookup _ x _ _ => match a.ev x with
    | .m b => some (b, 0, 0)
    | _ => none
  | .convert _ _ x => match a.ev x with
    | .q b o _ n _ => some (b, o, o + n)
    | _ => none
  | _ => none
def noLook (_ : Nat) : Option Ent := none
def oneLook (h : Hp) (b i : Nat) : Option Ent := match Nat.beq i b with
  | true => h.get i
  | false => none
def Hp.setFz (h : Hp) (fz : List (Nat × Nat × Nat)) : Hp := ⟨h.n, h.zn, h.t, fz⟩
section
variable (P : Program) (tt : TypeId → Option TJ) (ft : FuncId → Option FI) (hk : FuncId → List V → Hp → Option (V × Hp))
/-- The heads of a stage. -/
def heads (l : List Oper) (h : Hp) : List Nat → Ac → List (Nat × Nat × Nat) → Option (Ac × List (Nat × Nat × Nat))
  | [], a, z => some (a, z)
  | j :: js, a, z => match lget l j with
    | none => none
    | some o => match wantV l a o with
      | none => none
      | some false => heads l h js (a.put o.dst (.o undef)) z
      | some true => match hiB o.op with
        | false => none
        | true => match loadLike o.op, touch tt a o.op with
          | true, some b => match evQ P tt (oneLook h b.1) h.get a.ev o.op with
            | some v => match h.get b.1 with
              | some _ => heads l h js (a.put o.dst v) (b :: z)
              | none => none
            | none => none
          | _, _ => match evQ P tt noLook h.get a.ev o.op with
            | some v => heads l h js (a.put o.dst v) z
            | none => none
/-- One operation: a value and memory; or a call. -/
inductive O1 where
  | val (v : V) (h : Hp)
  | call (f : FuncId) (args : List V)
  | no
def op1 (a : Ac) (h : Hp) (op : Op) : O1 := match hiB op, evQ P tt h.get h.get a.ev op with
  | true, some v => .val v h
  | _, _ => match evM tt h a.ev op with
    | some (v, h') => .val v h'
    | none => match callV a op with
      | some (f, as) => match hk f as h with
        | some (v, h') => .val v h'
        | none => .call f as
      | none => .no
def res1 (a : Ac) (h : Hp) : ResultVar → Option V
  | .tmp t => some (a.ev (.tmp t))
  | .cell c t => match a.ev (.tmp c) with
    | .p b o => match tt t, h.get b with
      | some i, some (.cells cs _) => loadV i cs o
      | _, _ => none
    | _ => none
def resL (a : Ac) (h : Hp) : List ResultVar → Option (List V)
  | [] => some []
  | x :: l => match res1 tt a h x, resL a h l with
    | some v, some r => some (v :: r)
    | _, _ => none
def resV : List V → V
  | [a] => a
  | l => .t l
def enterF (i : FI) (as : List V) (dst : Option Tmp) (cf : Cf) (a : Ac) (h : Hp) (k : List KF) : Rs := match i.fn.body, Nat.ble as.length i.fn.ntmps with
  | some c, true => .go (.code c) ⟨argsT as 0 .e, i.fn.ntmps, i.pls⟩ h (.fr dst cf a i.fn h.fz :: k)
  | _, _ => .bad
def stp : Cf → Ac → Hp → List KF → Rs
  | .code .skip, a, h, k => .go (.ex .n) a h k
  | .code (.label _), a, h, k => .go (.ex .n) a h k
  | .code (.seq x y), a, h, k => .go (.code x) a h (.seq y :: k)
  | .code (.block id c), a, h, k => .go (.code c) a h (.blk id :: k)
  | .code .ret, a, h, k => .go (.ex .ret) a h k
  | .code (.exit id), a, h, k => .go (.ex (.exit id)) a h k
  | .code (.loop c), a, h, k => .go (.code c) a h (.lp c :: k)
  | .code (.scope c), a, h, k => .go (.code c) a h (.sc :: k)
  | .code (.cond c x y), a, h, k => match a.ev c with
    | .b true => .go (.code x) a h k
    | .b false => .go (.code y) a h k
    | _ => .bad
  | .code (.region id l d), a, h, k => match d with
    | false => .go (.ops l.toList l.toList) a h k
    | true => match plsGet a.pls id with
      | some p => .go (.pl l.toList p p.st h.fz true) a h k
      | none => .bad
  | .code _, _, _, _ => .bad
  | .ops _ [], a, h, k => .go (.ex .n) a h k
  | .ops l (o :: r), a, h, k => match wantV l a o with
    | none => .bad
    | some false => .go (.ops l r) (a.put o.dst (.o undef)) h k
    | some true => match op1 P tt hk a h o.op with
      | .val v h => .go (.ops l r) (a.put o.dst v) h k
      | .call f as => match ft f with
        | some i => enterF i as o.dst (.ops l r) a h k
        | none => .bad
      | .no => .bad
  | .pl _ _ .nil fz _, a, h, k => .go (.ex .n) a (h.setFz fz) k
  | .pl l p (.h hs st) fz ok, a, h, k => match ok || hs.all fun i => match l.toArray[i]? with | some o => !needy p.J i o | none => true with
    | true => match heads P tt l h hs a h.fz with
      | some (a, z) => .go (.pl l p st fz ok) a (h.setFz z) k
      | none => .bad
    | false => .bad
  | .pl l p (.o j st) fz ok, a, h, k => .go (.pw l p j st fz ok) a h k
  | .pl l p (.w i j r q) fz ok, a, h, k => .two (.pw l p i r fz ok) (.pw l p j q fz ok) a h k
  | .pw l p j st fz ok, a, h, k => match lget l j with
    | none => .bad
    | some o => match wantV l a o, ok || !p.J.testBit j with
      | some false, true => .go (.pl l p st fz ok) (a.put o.dst (.o undef)) h k
      | some true, true => match op1 P tt hk a h o.op with
        | .val v h => .go (.pl l p st fz ok) (a.put o.dst v) h k
        | .call f as => match ft f with
          | some i => enterF i as o.dst (.pl l p st fz ok) a h k
          | none => .bad
        | .no => match p.J.testBit j, op1 P tt hk a (h.setFz fz) o.op with
          | false, .val v h => .go (.pl l p st fz false) (a.put o.dst v) h k
          | _, _ => .bad
      | _, _ => .bad
  | .ex e, a, h, [] => .fin e a h
  | .ex .n, a, h, .seq c :: k => .go (.code c) a h k
  | .ex e, a, h, .seq _ :: k => .go (.ex e) a h k
  | .ex .n, a, h, .lp c :: k => .go (.code c) a h (.lp c :: k)
  | .ex e, a, h, .lp _ :: k => .go (.ex e) a h k
  | .ex (.exit i), a, h, .blk id :: k => match Nat.beq i id with
    | true => .go (.ex .n) a h k
    | false => .go (.ex (.exit i)) a h k
  | .ex e, a, h, .blk _ :: k => .go (.ex e) a h k
  | .ex (.goto _), _, _, .sc :: _ => .bad
  | .ex e, a, h, .sc :: k => .go (.ex e) a h k
  | .ex (.exit _), _, _, .fr .. :: _ => .bad
  | .ex (.goto _), _, _, .fr .. :: _ => .bad
  | .ex _, a, h, .fr dst cf b fn fz :: k => match resL tt a h fn.results.toList with
    | some l => .go cf (b.put dst (resV l)) (h.setFz fz) k
    | none => .bad
def run (ck : Ex → Ac → Hp → Bool) : Nat → Cf → Ac → Hp → List KF → Bool
  | 0, _, _, _, _ => false
  | n+1, c, a, h, k => match stp P tt ft hk c a h k with
    | .go c a h k => run ck n c a h k
    | .two c d a h k => run ck n c a h k && run ck n d a h k
    | .fin e a h => ck e a h
    | _ => false
end
/-- Is each region of a code, that draws its order, as it is told? -/
def plB (pls : List (Nat × Pl)) : Code → Bool
  | .region id l true => match plsGet pls id with
    | some p => Region.noSelect l && maskOk l p.M && planB l.toList p.M p.J p.st (Array.replicate l.toList.length false) && planE p.st && decide (planN p.st = l.toList.length)
    | none => true
  | .seq a b | .cond _ a b => plB pls a && plB pls b
  | .block _ c | .loop c | .scope c => plB pls c
  | _ => true
end Go.Proofs.Rn
