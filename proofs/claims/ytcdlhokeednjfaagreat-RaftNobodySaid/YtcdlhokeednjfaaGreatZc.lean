/- A runner: the operations that change no memory; over any program; no conditions. -/
import Derived.Test.YtcdlhokeednjfaaGreatZb
namespace Go.Proofs.Rn
open Go Go.RowKit Go.Proofs.Own

def asN : V → Option Nat
  | .i _ (.ofNat n) => some n
  | _ => none
/-- Two cells of one kind. -/
def eq1 : TK → V → V → Option Bool
  | .int _, .i k a, .i k' b => if k = k' then some (a == b) else none
  | .bool, .b a, .b b => some (a == b)
  | .str, .s a, .s b => some ((mkS a).toList == (mkS b).toList)
  | _, _, _ => none
def eqL (tt : TypeId → Option TJ) (l m : List V) : List (Nat × TypeId × Nat) → Option Bool
  | [] => some true
  | (o, t, _) :: r => match tt t, lget l o, lget m o with
    | some i, some x, some y => match eq1 i.k x y with
      | some true => eqL tt l m r
      | q => q
    | _, _, _ => none
/-- Two rows of cells of one kind. -/
def eqR (k : TK) : List V → List V → Option Bool
  | [], [] => some true
  | a :: l, b :: m => match eq1 k a b with
    | some true => eqR k l m
    | q => q
  | _, _ => none
def nilEq (tt : TypeId → Option TJ) (k : TK) (x y : V) : Option Bool := match k with
  | .ptr => match x, y with
    | .p _ _, .o (.pointer none) => some false
    | .o (.pointer none), .p _ _ => some false
    | .o (.pointer none), .o (.pointer none) => some true
    | _, _ => none
  | .sl _ => match x, y with
    | .q _ _ _ _ _, .o (.slice none _ _) => some false
    | .z _ _ _ _, .o (.slice none _ _) => some false
    | .o (.slice none _ _), .o (.slice none _ _) => some true
    | _, _ => none
  | .mp _ _ => match x, y with
    | .m _, .o (.map none) => some false
    | .o (.map none), .o (.map none) => some true
    | _, _ => none
  | .fn => match x, y with
    | .f _ _ _, .o .nilFunc => some false
    | .o .nilFunc, .o .nilFunc => some true
    | _, _ => none
  | .st fs => match x, y with
    | .g l, .g m => eqL tt l m fs
    | _, _ => none
  | .arr n e => match x, y, tt e with
    | .g l, .g m, some i => match Nat.beq l.length n, Nat.beq i.n 1 with
      | true, true => eqR i.k l m
      | _, _ => none
    | _, _, _ => none
  | k => eq1 k x y
def nilEqG (tt : TypeId → Option TJ) (i : TJ) (x y : V) : Option Bool := match !isAgg' i.k || i.eq with
  | true => nilEq tt i.k x y
  | false => none
def evBin (P : Program) (tt : TypeId → Option TJ) (op : BinOp) (t : TypeId) (x y : V) : Option V := match op, x, y with
  | .eql, x, y => match tt t with
    | some i => match nilEqG tt i x y with
      | some b => some (.b b)
      | none => none
    | none => none
  | .neq, x, y => match tt t with
    | some i => match nilEqG tt i x y with
      | some b => some (.b !b)
      | none => none
    | none => none
  | op, .i k a, .i k' b => match pureRun P (Go.binOp op t (.int k a) (.int k' b)) with
    | some r => some (constV r)
    | none => none
  | op, .s a, .s b => match pureRun P (Op.stringOp op (mkS a) (mkS b)) with
    | some r => some (constV r)
    | none => none
  | _, _, _ => none
def keyFind (kd : TK) (k : V) : List (V × V × Nat) → Nat → Option (Option (Nat × V))
  | [], _ => some none
  | (a, v, _) :: r, i => match kd, k, a with
    | .int _, .i kk x, .i k' y => if kk = k' then (match x == y with
      | true => some (some (i, v))
      | false => keyFind kd k r (i + 1)) else none
    | .str, .s x, .s y => match mkS x == mkS y with
      | true => some (some (i, v))
      | false => keyFind kd k r (i + 1)
    | _, _, _ => none
def unL : List V → Option (List Value)
  | [] => some []
  | v :: l => match unV v, unL l with
    | some x, some r => some (x :: r)
    | _, _ => none
def u8L : List V → Option (List Nat)
  | [] => some []
  | .i .u8 (.ofNat n) :: l => match u8L l with
    | some r => some (n :: r)
    | none => none
  | _ => none
section
variable (P : Program) (tt : TypeId → Option TJ) (look lens : Nat → Option Ent) (ev : Operand → V)
def sliceQ (x : V) (lo hi mx : Option V) (es : Nat) : Option V := match x with
  | .o (.slice none 0 0) => match lo.elim (some 0) asN, hi.elim (some 0) asN, mx.elim (some 0) asN with
    | some 0, some 0, some 0 => some (.o (.slice none 0 0))
    | _, _, _ => none
  | .q i o es' n c => if es' = es then (match lo.elim (some 0) asN, hi.elim (some n) asN with
    | some l, some h => match mx, c with
      | none, some cc => if Nat.ble l h && Nat.ble h cc then some (.q i (if cc = l then o else o + l * es) es (h - l) (some (cc - l))) else none
      | some m, some cc => match asN m with
        | some m => if Nat.ble l h && Nat.ble h m && Nat.ble m cc then some (.q i (if m = l then o else o + l * es) es (h - l) (some (m - l))) else none
        | none => none
      | none, none => match lens i with
        | some (.cells cl true) => match Nat.ble l h && Nat.ble (o + h * es) cl.length with
          | true => match Nat.ble (o + (l + 1) * es) cl.length with
            | true => some (.q i (o + l * es) es (h - l) none)
            | false => match Nat.beq l h with
              | true => some (.z i o es l)
              | false => none
          | false => none
        | _ => none
      | some m, none => match asN m, lens i with
        | some m, some (.cells cl true) => if Nat.ble l h && Nat.ble h m && Nat.ble (o + m * es) cl.length then some (.q i (if m = l then o else o + l * es) es (h - l) (some (m - l))) else none
        | _, _ => none
    | _, _ => none) else none
  | _ => none
def evQ : Op → Option V
  | .move x | .assign x => some (ev x)
  | .pick c a b => match ev c with
    | .b true => some (ev a)
    | .b false => some (ev b)
    | _ => none
  | .build t ps => match tt t with
    | some i => match i.k with
      | .st fs => match fillV (fun j => (lget fs j).map fun f => (f.1, f.2.2)) ev i.z ps.toList with
        | some l => some (.g l)
        | none => none
      | .arr _ e => match tt e with
        | some ei => match fillV (fun j => some (j * ei.n, ei.n)) ev i.z ps.toList with
          | some l => some (.g l)
          | none => none
        | none => none
      | _ => none
    | none => none
  | .load t x => match ev x with
    | .p b o => match tt t, look b with
      | some i, some (.cells c _) => loadV i c o
      | _, _ => none
    | _ => none
  | .fieldAddr t x j => match ev x with
    | .p b o => match tt t with
      | some i => match i.k with
        | .st fs => match lget fs j with
          | some (k, _, n) => match n with
            | 0 => none
            | _ => some (.p b (o + k))
          | none => none
        | _ => none
      | none => none
    | _ => none
  | .field t x j => match ev x with
    | .g l => match tt t with
      | some i => match i.k with
        | .st fs => match lget fs j with
          | some (k, ft, _) => match tt ft with
            | some fi => loadV fi l k
            | none => none
          | none => none
        | _ => none
      | none => none
    | _ => none
  | .extract x j => match ev x with
    | .t l => lget l j
    | _ => none
  | .nilCheck x => match ev x with
    | .p b o => some (.p b o)
    | .f (.func f) a c => some (.f (.func f) a c)
    | _ => none
  | .binOp op t x y _ => evBin P tt op t (ev x) (ev y)
  | .unOp op _ x => match unV (ev x) with
    | some a => match pureRun P (Op.unary op a) with
      | some r => some (constV r)
      | none => none
    | none => none
  | .convert t u x => match tt t, tt u with
    | some i, some j => match j.k with
      | .int k => match ev x with
        | .i _ n => some (.i k (k.wrap n))
        | _ => none
      | .str => match i.k, ev x with
        | .str, .s l => some (.s l)
        | .sl e, .o (.slice none _ _) => match tt e with
          | some ei => match ei.k with
            | .int .u8 => some (.s [])
            | _ => none
          | none => none
        | .sl e, .q i o es n _ => match tt e, look i with
          | some ei, some (.cells c _) => match ei.k, es, lcut c o n with
            | .int .u8, 1, some l => match u8L l with
              | some l => some (.s l)
              | none => none
            | _, _, _ => none
          | _, _ => none
        | _, _ => none
      | _ => none
    | _, _ => none
  | .makeFunc fn a c => some (.f fn (a.toList.map ev) (c.toList.map ev))
  | .indexAddr t x ix => match tt t, asN (ev ix) with
    | some i, some n => match i.k, ev x with
      | .arr len e, .p b o => match tt e with
        | some ei => if Nat.blt n len then some (.p b (o + n * ei.n)) else none
        | none => none
      | .sl e, .q b o es len _ => match tt e with
        | some ei => if Nat.blt n len && Nat.beq es ei.n then some (.p b (o + n * es)) else none
        | none => none
      | _, _ => none
    | _, _ => none
  | .index t x ix => match tt t, asN (ev ix) with
    | some i, some n => match i.k, ev x with
      | .arr len e, .g l => match tt e with
        | some ei => if Nat.blt n len then loadV ei l (n * ei.n) else none
        | none => none
      | .str, .s l => match lget l n with
        | some b => if Nat.blt b 256 then some (.i .u8 b) else none
        | none => none
      | _, _ => none
    | _, _ => none
  | .slice t x lo hi mx => match tt t with
    | some i => match i.k with
      | .sl e => match tt e with
        | some ei => sliceQ lens (ev x) (lo.map ev) (hi.map ev) (mx.map ev) ei.n
        | none => none
      | .arr n e => match tt e, ev x with
        | some ei, .p b o => match mx, (lo.map ev).elim (some 0) asN, (hi.map ev).elim (some n) asN with
          | none, some l, some h => if Nat.ble l h && Nat.ble h n && Nat.blt 0 ei.n then some (.q b (if n = l then o else o + l * ei.n) ei.n (h - l) (some (n - l))) else none
          | _, _, _ => none
        | _, _ => none
      | .str => match ev x, mx, (lo.map ev).elim (some 0) asN with
        | .s s, none, some l => match (hi.map ev).elim (some s.length) asN with
          | some h => if Nat.ble l h && Nat.ble h s.length then some (.s ((s.drop l).take (h - l))) else none
          | none => none
        | _, _, _ => none
      | _ => none
    | none => none
  | .lookup t x ix ok => match tt t with
    | some i => match i.k with
      | .mp kt e => match tt e, tt kt with
        | some ei, some ki => match (match ki.k with | .int _ => true | .str => true | _ => false) with
          | true => match (match ev x with
              | .o (.map none) => some []
              | .m r => match look r with
                | some (.map es _) => some es
                | _ => none
              | _ => none : Option (List (V × V × Nat))) with
            | some es => match keyFind ki.k (ev ix) es 0 with
              | some (some (_, v)) => match ok with
                | true => some (.t [v, .b true])
                | false => some v
              | some none => match ok with
                | true => some (.t [zeroV ei, .b false])
                | false => some (zeroV ei)
              | none => none
            | none => none
          | false => none
        | _, _ => none
      | _ => none
    | none => none
  | .call c => match c.callee, c.args.toList, c.argTypes.toList with
    | .builtin .len, [x], [t] => match tt t with
      | some i => match i.k with
        | .sl _ => match ev x with
          | .q _ _ _ n _ => some (.i .i64 n)
          | .z _ _ _ _ => some (.i .i64 0)
          | .o (.slice _ n _) => some (.i .i64 n)
          | _ => none
        | .str => match ev x with
          | .s l => some (.i .i64 l.length)
          | .o (.string s) => some (.i .i64 s.size)
          | _ => none
        | .arr n _ => some (.i .i64 n)
        | .mp _ _ => match ev x with
          | .o (.map none) => some (.i .i64 0)
          | .m r => match look r with
            | some (.map es _) => some (.i .i64 es.length)
            | _ => none
          | _ => none
        | _ => none
      | none => none
    | .builtin .min, xs, _ => match unL (xs.map ev) with
      | some l => match pureRun P (Builtin.min_ #[] 0 l.toArray) with
        | some r => some (constV r)
        | none => none
      | none => none
    | .builtin .max, xs, _ => match unL (xs.map ev) with
      | some l => match pureRun P (Builtin.max_ #[] 0 l.toArray) with
        | some r => some (constV r)
        | none => none
      | none => none
    | _, _, _ => none
  | _ => none
end
end Go.Proofs.Rn
