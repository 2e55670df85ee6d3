import PyProof.Rows.All
import KE.KStateDown
import HandS.Head0
import HandS.Head1
import HandS.Head2
import HandS.HeadEnd
import PySem.Challenge.RW_realhall_k16_rows_of_parts
import HandS.ForMost
import HandS.ForExc
import HandS.WideBits
import HandS.Deep
import HandS.TryMany
import HandS.ExcInit
import HandS.SuiteRaise
import HandS.Lambda
import HandS.Style
import HandS.TupAny
import HandS.TupMul
import HandS.Zip
import HandS.Rev
import HandS.Wide
import HandS.Conv
import HandS.HeadHook4
import KE.GoesEnum
import KE.GoesMore
import PyProof.EnumMake
import HandS.RevTup
import PyProof.ListNew
import HandS.NoneIn
import HandS.HeadWalk
import HandS.NestedK
set_option Elab.async false
set_option exponentiation.threshold 10000
/-! Dat1 -/
set_option linter.all false
set_option maxRecDepth 100000
/-! Dat1: plain data, the small language IE / IS, what it computes. -/
namespace Dat
open PySem L2

/-- plain data: tuples by value, lists and objects by their place in the store -/
inductive D where
  | non | bl (b : Bool) | int (i : Int) | str (x : Str) | tup (l : List D) | fro (l : List D) | ref (i : Nat)

inductive Cell where
  | lst (l : List D)
  | ins (c : Str) (fs : List (Str × D))
  | dct (l : List (Key × D))
abbrev Mem := List Cell
mutual
def D.beq : D → D → Bool
  | .non, .non => true
  | .bl a, .bl b => a == b
  | .int a, .int b => a == b
  | .str a, .str b => decide (a = b)
  | .tup a, .tup b => D.beqL a b
  | .fro a, .fro b => D.beqL a b
  | .ref a, .ref b => a == b
  | _, _ => false
def D.beqL : List D → List D → Bool
  | [], [] => true
  | a :: l, b :: k => D.beq a b && D.beqL l k
  | _, _ => false
end
mutual
theorem D.beq_iff : ∀ a b : D, D.beq a b = true ↔ a = b
  | .non, b => by cases b <;> simp [D.beq]
  | .bl _, b => by cases b <;> simp [D.beq]
  | .int _, b => by cases b <;> simp [D.beq]
  | .str _, b => by cases b <;> simp [D.beq]
  | .tup l, b => by cases b <;> simp [D.beq, D.beqL_iff l]
  | .fro l, b => by cases b <;> simp [D.beq, D.beqL_iff l]
  | .ref _, b => by cases b <;> simp [D.beq]
theorem D.beqL_iff : ∀ a b : List D, D.beqL a b = true ↔ a = b
  | [], b => by cases b <;> simp [D.beqL]
  | x :: l, b => by cases b <;> simp [D.beqL, D.beq_iff x, D.beqL_iff l]
end
abbrev EnvD := List (Option D)

mutual
/-- all places named lie below n -/
def D.undr (n : Nat) : D → Bool
  | .tup l => D.undrL n l
  | .fro l => D.undrL n l
  | .ref i => decide (i < n)
  | _ => true
def D.undrL (n : Nat) : List D → Bool
  | [] => true
  | d :: l => D.undr n d && D.undrL n l
end
def Cell.undr (n : Nat) : Cell → Bool
  | .lst l => D.undrL n l
  | .ins _ fs => fs.all fun p => p.2.undr n
  | .dct l => l.all fun p => p.2.undr n

/-! ### data that can be compared -/
mutual
def toPy0 : D → Option PyData
  | .non => some .none
  | .bl b => some (.bool b)
  | .int i => some (.int i)
  | .str x => some (.str x)
  | .tup l => (toPy0L l).map .tuple
  | .fro l => (toPy0L l).map .list
  | .ref _ => none
def toPy0L : List D → Option (List PyData)
  | [] => some []
  | d :: l => match toPy0 d, toPy0L l with
    | some x, some xs => some (x :: xs)
    | _, _ => none
end
def toPy (m : Mem) : D → Option PyData
  | .ref i => match m[i]? with
    | some (.lst l) => (toPy0L l).map .list
    | _ => none
  | d => toPy0 d
def eqD (m : Mem) (x y : D) : Option Bool := match toPy m x, toPy m y with
  | some a, some b => if SeqAt.shaped a = true ∧ SeqAt.shaped b = true then some (PyData.eqv a b) else none
  | _, _ => none

/-! ### outcomes -/
inductive Res (α : Type) where
  | ok (a : α) (m : Mem)
  | exn (c : Str) (p : Option D) (m : Mem)
  | stuck
def Res.bind {α β : Type} (r : Res α) (f : α → Mem → Res β) : Res β := match r with
  | .ok a m => f a m
  | .exn c p m => .exn c p m
  | .stuck => .stuck
/-- what nothing names any more is forgotten -/
def gcM (n : Nat) (a : D) (m : Mem) : Mem := if a.undr n = true ∧ (∀ c ∈ m.take n, c.undr n = true) then m.take n else m
def Res.gc (n : Nat) (r : Res D) : Res D := match r with
  | .ok a m => .ok a (gcM n a m)
  | r => r

/-! ### operations -/
def liftO {α : Type} (m : Mem) : Option α → Res α
  | some a => .ok a m
  | none => .stuck
def MulG (i j : Int) : Prop := (Builtin.Int.intBits i : Int) + (Builtin.Int.intBits j : Int) ≤ 134217728
def DivG (i j : Int) : Prop := j ≠ 0 ∧ Builtin.divisionGoesByPylong i j = false
def PowG (i j : Int) : Prop := 0 ≤ j ∧ j ≤ 1000000 ∧ i.natAbs < 2 ^ 64
instance (i j : Int) : Decidable (MulG i j) := inferInstanceAs (Decidable (_ ≤ _))
instance (i j : Int) : Decidable (DivG i j) := inferInstanceAs (Decidable (_ ∧ _))
instance (i j : Int) : Decidable (PowG i j) := inferInstanceAs (Decidable (_ ∧ _ ∧ _))
def addD (x y : D) (m : Mem) : Res D := match x, y with
  | .int i, .int j => .ok (.int (i + j)) m
  | .str a, .str b => if a.length + b.length ≤ sizeLine then .ok (.str (a ++ b)) m else .stuck
  | .tup a, .tup b => if a.length + b.length ≤ sizeLine then .ok (.tup (a ++ b)) m else .stuck
  | .ref i, .ref j => match m[i]?, m[j]? with
    | some (.lst a), some (.lst b) => if a.length + b.length ≤ sizeLine then .ok (.ref m.length) (m ++ [.lst (a ++ b)]) else .stuck
    | _, _ => .stuck
  | _, _ => .stuck
def mulD (x y : D) (m : Mem) : Res D := match x, y with
  | .int i, .int j => if MulG i j then .ok (.int (i * j)) m else .stuck
  | .ref i, .int k => match m[i]? with
    | some (.lst a) => if -(2 ^ 63) ≤ k ∧ k < 2 ^ 63 ∧ a.length * k.toNat ≤ sizeLine then .ok (.ref m.length) (m ++ [.lst (List.replicate k.toNat a).flatten]) else .stuck
    | _ => .stuck
  | _, _ => .stuck
def binD (op : Operator) (x y : D) (m : Mem) : Res D := match op with
  | .Add => addD x y m
  | .Mult => mulD x y m
  | .Sub => match x, y with
    | .int i, .int j => .ok (.int (i - j)) m
    | _, _ => .stuck
  | .FloorDiv => match x, y with
    | .int i, .int j => if DivG i j then .ok (.int (i.fdiv j)) m else .stuck
    | _, _ => .stuck
  | .Mod => match x, y with
    | .int i, .int j => if j ≠ 0 then .ok (.int (i.fmod j)) m else .stuck
    | _, _ => .stuck
  | .Pow => match x, y with
    | .int i, .int j => if PowG i j then .ok (.int (i ^ j.toNat)) m else .stuck
    | _, _ => .stuck
  | _ => .stuck
def cmpI (op : CmpOp) (i j : Int) : Option Bool := match op with
  | .Lt => some (decide (i < j))
  | .LtE => some (decide (i ≤ j))
  | .Gt => some (decide (j < i))
  | .GtE => some (decide (j ≤ i))
  | _ => none
/-- an int, a text, a truth value or None -/
def D.scalar : D → Bool
  | .non | .bl _ | .int _ | .str _ => true
  | _ => false
def inD (m : Mem) (x y : D) : Option Bool := match y with
  | .tup l => match toPy m x, toPy0L l with
    | some a, some bs => if SeqAt.shaped a = true ∧ SeqAt.shaped (.list bs) = true then some (bs.any fun z => PyData.eqv z a) else none
    | _, _ => none
  | .ref i => match m[i]? with
    | some (.lst l) => match toPy m x, toPy0L l with
      | some a, some bs => if SeqAt.shaped a = true ∧ SeqAt.shaped (.list bs) = true then some (bs.any fun z => PyData.eqv z a) else none
      | _, _ => none
    | _ => none
  | _ => none
def isD (x y : D) : Option Bool := match x, y with
  | .non, .non => some true
  | _, .non => some false
  | .bl a, .bl b => some (decide (a = b))
  | _, _ => none
def cmpD (op : CmpOp) (x y : D) (m : Mem) : Res D := match op with
  | .Eq => liftO m ((eqD m x y).map .bl)
  | .NotEq => liftO m ((eqD m x y).map fun b => .bl (!b))
  | .Is => liftO m ((isD x y).map .bl)
  | .IsNot => liftO m ((isD x y).map fun b => .bl (!b))
  | .In => liftO m ((inD m x y).map .bl)
  | .NotIn => liftO m ((inD m x y).map fun b => .bl (!b))
  | op => match x, y with
    | .int i, .int j => liftO m ((cmpI op i j).map .bl)
    | _, _ => .stuck
/-- items of a list or a tuple -/
def seqD (m : Mem) : D → Option (List D)
  | .tup l => some l
  | .fro l => some l
  | .ref i => match m[i]? with
    | some (.lst l) => some l
    | _ => none
  | _ => none
def idxD (x y : D) (m : Mem) : Res D := match x, y with
  | .str z, .int i => if z.length ≤ sizeLine then liftO m ((atI z.cps.toList i).map fun c => .str ⟨#[c]⟩) else .stuck
  | x, .int i => match seqD m x with
    | some l => liftO m (atI l i)
    | none => .stuck
  | _, _ => .stuck
def partD (b : Bool) (d : D) : Option (Option Int) := if b = true then (match d with
  | .int i => some (some i)
  | _ => none) else some none
def cutD (xs : List D) (lo hi : Option Int) : List D := (xs.drop (HT.sIx xs.length 0 lo)).take (HT.sIx xs.length xs.length hi - HT.sIx xs.length 0 lo)
def slcD (x : D) (l h : Option Int) (m : Mem) : Res D := match x with
  | .tup a => .ok (.tup (cutD a l h)) m
  | .fro a => .ok (.ref m.length) (m ++ [.lst (cutD a l h)])
  | .ref i => match m[i]? with
    | some (.lst a) => .ok (.ref m.length) (m ++ [.lst (cutD a l h)])
    | _ => .stuck
  | _ => .stuck

/-! ### the language -/
inductive Tg where
  | var (i : Nat)
  | tup (l : List Tg)
inductive Blt where
  | abs | len | int | str | list | tuple | min2 | max2
  deriving DecidableEq
inductive Mth where
  | append | pop | popAt | insert | extend
  deriving DecidableEq
mutual
inductive IE where
  | var (i : Nat)
  | con (d : D)
  | glo (x : Str) (d : D)
  | nop
  | bin (op : Operator) (a b : IE)
  | neg (a : IE)
  | notE (a : IE)
  | cmp (op : CmpOp) (a b : IE)
  | cmp2 (o1 o2 : CmpOp) (a b c : IE)
  | andE (a b : IE)
  | orE (a b : IE)
  | ifE (c a b : IE)
  | idx (a b : IE)
  | slc (bl bh : Bool) (a lo hi : IE)
  | tup (l : List IE)
  | lst (l : List IE)
  | call (f : Nat) (l : List IE)
  | blt (b : Blt) (l : List IE)
  | mth (k : Mth) (o : IE) (l : List IE)
  | comp (tg : Tg) (it : II) (c e : IE) (own : List Nat)
  | told (f : Nat) (e : IE)
  | lrev (e : IE)
inductive II where
  | seq (e : IE)
  | rng1 (l : List IE)
  | rng (l : List IE)
  | rev (e : IE)
  | enm (e : IE)
  | zip (l : List IE)
end
inductive IS where
  | expr (e : IE)
  | asg (t : Tg) (e : IE)
  | aug (i : Nat) (op : Operator) (e : IE)
  | setI (o i e : IE)
  | ifS (c : IE) (a b : List IS)
  | whl (c : IE) (b : List IS)
  | forS (t : Tg) (it : II) (b : List IS)
  | ret (e : IE)
  | retN
  | rais (c : Str)
  | pass | brk | cnt

def wipeE (env : EnvD) : List Nat → EnvD
  | [] => env
  | v :: vs => (wipeE env vs).set v none
mutual
/-- an item goes to a target -/
def asgT (m : Mem) : Tg → D → EnvD → Option EnvD
  | .var i, d, env => if i < env.length then some (env.set i (some d)) else none
  | .tup ts, d, env => match seqD m d with
    | some ds => asgTs m ts ds env
    | none => none
def asgTs (m : Mem) : List Tg → List D → EnvD → Option EnvD
  | [], [], env => some env
  | t :: ts, d :: ds, env => (asgT m t d env).bind fun e => asgTs m ts ds e
  | _, _, _ => none
end

abbrev CallT := Nat → List D → Mem → Res D
/-- the exceptions that a told-def takes: class, text -/
structure Ctl where
  call : CallT
  call2 : CallT
  told : List (Nat × List (Str × Str))
  sub : Str → Str → Option Bool
  turns : Nat
/-- which clause takes an exception -/
def toldM (sub : Str → Str → Option Bool) (c : Str) : List (Str × Str) → Option Str
  | [] => none
  | q :: r => match sub c q.1 with
    | some true => some q.2
    | some false => toldM sub c r
    | none => none
def Ctl.inner (C : Ctl) : Ctl := { C with call := C.call2, told := [] }

def bltD (b : Blt) (l : List D) (m : Mem) : Res D := match b, l with
  | .abs, [.int i] => .ok (.int (if i < 0 then -i else i)) m
  | .len, [.str z] => if z.length ≤ sizeLine then .ok (.int z.length) m else .stuck
  | .len, [x] => match seqD m x with
    | some l => .ok (.int l.length) m
    | none => .stuck
  | .int, [.int i] => .ok (.int i) m
  | .int, [.bl b] => .ok (.int (if b then 1 else 0)) m
  | .str, [.int i] => if i.natAbs.log2 < 1920 then .ok (.str (toString i)) m else .stuck
  | .list, [x] => match seqD m x with
    | some l => .ok (.ref m.length) (m ++ [.lst l])
    | none => .stuck
  | .tuple, [.tup l] => .ok (.tup l) m
  | .tuple, [x] => match seqD m x with
    | some l => .ok (.tup l) m
    | none => .stuck
  | .min2, [.int i, .int j] => .ok (.int (if j < i then j else i)) m
  | .max2, [.int i, .int j] => .ok (.int (if j > i then j else i)) m
  | _, _ => .stuck
def mthD (k : Mth) (o : D) (l : List D) (m : Mem) : Res D := match o with
  | .ref a => match m[a]?, k, l with
    | some (.lst xs), .append, [y] => if xs.length < sizeLine then .ok .non (m.set a (.lst (xs ++ [y]))) else .stuck
    | some (.lst xs), .pop, [] => match xs[xs.length - 1]? with
      | some y => .ok y (m.set a (.lst xs.dropLast))
      | none => .stuck
    | some (.lst xs), .popAt, [.int i] => if -(2 ^ 63) ≤ i ∧ i < 2 ^ 63 then (match seqIndex? i xs.length with
      | some k => (match xs[k]? with
        | some y => .ok y (m.set a (.lst (xs.eraseIdx k)))
        | none => .stuck)
      | none => .stuck) else .stuck
    | _, _, _ => .stuck
  | _ => .stuck
def isL (m : Mem) : D → Bool
  | .ref i => match m[i]? with
    | some (.lst _) => true
    | _ => false
  | _ => false
def negD (x : D) (m : Mem) : Res D := match x with
  | .int i => .ok (.int (-i)) m
  | _ => .stuck
def asB {α : Type} (x : D) (f : Bool → Res α) : Res α := match x with
  | .bl b => f b
  | _ => .stuck
/-- the list that is walked stands as it stood -/
def chkW (o : Option (Nat × List D)) (m : Mem) : Prop := match o with
  | none => True
  | some (i, ds) => m[i]? = some (.lst ds)
instance (o : Option (Nat × List D)) (m : Mem) : Decidable (chkW o m) := match o with
  | none => isTrue trivial
  | some (i, ds) => match e : m[i]? with
    | some (.lst l) => if h : D.beqL l ds = true then isTrue (by show m[i]? = _; rw [e, (D.beqL_iff l ds).mp h]) else isFalse (by
        intro z
        have z : m[i]? = some (.lst ds) := z
        rw [e] at z
        cases z
        exact h ((D.beqL_iff _ _).mpr rfl))
    | some (.ins c f) => isFalse (by intro z; have z : m[i]? = some (.lst ds) := z; rw [e] at z; cases z)
    | some (.dct l) => isFalse (by intro z; have z : m[i]? = some (.lst ds) := z; rw [e] at z; cases z)
    | none => isFalse (by intro z; have z : m[i]? = some (.lst ds) := z; rw [e] at z; cases z)
abbrev Items := List D × Option (Nat × List D)
def seqW (x : D) (m : Mem) : Res Items := match x with
  | .tup l => .ok (l, none) m
  | .fro l => .ok (l, none) m
  | .ref i => match m[i]? with
    | some (.lst l) => .ok (l, some (i, l)) m
    | _ => .stuck
  | _ => .stuck
def rngL (a : Int) (n : Nat) : List D := (List.range n).map fun i => .int (a + (i : Nat))
def rngD (ds : List D) (m : Mem) : Res Items := match ds with
  | [.int i, .int j] => if -(2 ^ 62) ≤ i ∧ i < 2 ^ 62 ∧ -(2 ^ 62) ≤ j ∧ j < 2 ^ 62 then .ok (rngL i (j - i).toNat, none) m else .stuck
  | _ => .stuck
def zipD (ds : List D) (m : Mem) : Res Items := match ds with
  | [.tup l, .tup k] => .ok ((l.zip k).map (fun p => .tup [p.1, p.2]), none) m
  | _ => .stuck
def optC (r : Option D) (l : List D) : List D := match r with
  | some x => x :: l
  | none => l
def compL (o : Option (Nat × List D)) (body : D → Mem → Res (Option D)) : List D → Mem → Res (List D)
  | [], m => if chkW o m then .ok [] m else .stuck
  | d :: ds, m => if chkW o m then (body d m).bind fun r m1 => (compL o body ds m1).bind fun l m2 => .ok (optC r l) m2 else .stuck
mutual
def evalE : IE → Ctl → EnvD → Mem → Res D
  | .var i, C, env, m => match env[i]? with
    | some (some d) => .ok d m
    | _ => .stuck
  | .con d, C, _, m => .ok d m
  | .glo _ d, C, _, m => .ok d m
  | .nop, C, _, m => .ok .non m
  | .bin op a b, C, env, m => (evalE a C env m).bind fun x m1 => (evalE b C env m1).bind fun y m2 => binD op x y m2
  | .neg a, C, env, m => (evalE a C env m).bind fun x m1 => negD x m1
  | .notE a, C, env, m => (evalE a C env m).bind fun x m1 => asB x fun b => .ok (.bl (!b)) m1
  | .cmp op a b, C, env, m => (evalE a C env m).bind fun x m1 => (evalE b C env m1).bind fun y m2 => cmpD op x y m2
  | .cmp2 o1 o2 a b c, C, env, m => (evalE a C env m).bind fun x m1 => (evalE b C env m1).bind fun y m2 => (cmpD o1 x y m2).bind fun r m3 => asB r fun t =>
      if t = true then (evalE c C env m3).bind fun z m4 => cmpD o2 y z m4 else .ok (.bl false) m3
  | .andE a b, C, env, m => (evalE a C env m).bind fun x m1 => asB x fun t => if t = true then evalE b C env m1 else .ok (.bl false) m1
  | .orE a b, C, env, m => (evalE a C env m).bind fun x m1 => asB x fun t => if t = true then .ok (.bl true) m1 else evalE b C env m1
  | .ifE c a b, C, env, m => (evalE c C env m).bind fun x m1 => asB x fun t => if t = true then evalE a C env m1 else evalE b C env m1
  | .idx a b, C, env, m => (evalE a C env m).bind fun x m1 => (evalE b C env m1).bind fun y m2 => idxD x y m2
  | .slc bl bh a lo hi, C, env, m => (evalE a C env m).bind fun x m1 => (evalE lo C env m1).bind fun l m2 => match partD bl l with
    | some l' => (evalE hi C env m2).bind fun h m3 => (match partD bh h with
      | some h' => slcD x l' h' m3
      | none => .stuck)
    | none => .stuck
  | .tup l, C, env, m => (evalEs l C env m).bind fun ds m1 => if ds.length ≤ sizeLine then .ok (.tup ds) m1 else .stuck
  | .lst l, C, env, m => (evalEs l C env m).bind fun ds m1 => if ds.length ≤ sizeLine then .ok (.ref m1.length) (m1 ++ [.lst ds]) else .stuck
  | .call f l, C, env, m => (evalEs l C env m).bind fun ds m1 => C.call f ds m1
  | .blt b l, C, env, m => (evalEs l C env m).bind fun ds m1 => bltD b ds m1
  | .mth k o l, C, env, m => (evalE o C env m).bind fun x m1 => if isL m1 x = true then (evalEs l C env m1).bind fun ds m2 => mthD k x ds m2 else .stuck
  | .comp tg it c e own, C, env, m => (evalI it C env m).bind fun I m1 => (compL I.2 (fun d m2 =>
      match asgT m2 tg d (wipeE env own) with
      | some env2 => (match evalE c C env2 m2 with
        | .ok (.bl true) m3 => (match evalE e C env2 m3 with
          | .ok x m4 => .ok (some x) m4
          | _ => .stuck)
        | .ok (.bl false) m3 => .ok none m3
        | _ => .stuck)
      | none => .stuck) I.1 m1).bind fun l m2 => if l.length ≤ sizeLine then .ok (.ref m2.length) (m2 ++ [.lst l]) else .stuck
  | .lrev e, C, env, m => (evalE e C env m).bind fun x m1 => match seqD m1 x with
    | some l => .ok (.ref m1.length) (m1 ++ [.lst l.reverse])
    | none => .stuck
  | .told f e, C, env, m => match C.told.lookup f with
    | some cl => (match evalE e C.inner env m with
      | .ok d m1 => (Res.ok d m1).gc m.length
      | .exn c p m1 => (match toldM C.sub c cl with
        | some s => (Res.ok (.str s) m1).gc m.length
        | none => .stuck)
      | .stuck => .stuck)
    | none => .stuck
def evalEs : List IE → Ctl → EnvD → Mem → Res (List D)
  | [], C, _, m => .ok [] m
  | e :: es, C, env, m => (evalE e C env m).bind fun d m1 => (evalEs es C env m1).bind fun ds m2 => .ok (d :: ds) m2
def evalI : II → Ctl → EnvD → Mem → Res Items
  | .seq e, C, env, m => (evalE e C env m).bind fun x m1 => seqW x m1
  | .rng1 l, C, env, m => (evalEs l C env m).bind fun ds m2 => rngD ((.int 0) :: ds) m2
  | .rng l, C, env, m => (evalEs l C env m).bind fun ds m2 => rngD ds m2
  | .rev e, C, env, m => (evalE e C env m).bind fun x m1 => (seqW x m1).bind fun I m2 => .ok (I.1.reverse, I.2) m2
  | .enm e, C, env, m => (evalE e C env m).bind fun x m1 => (seqW x m1).bind fun I m2 => .ok ((I.1.zipIdx).map (fun p => .tup [.int (p.2 : Nat), p.1]), I.2) m2
  | .zip l, C, env, m => (evalEs l C env m).bind fun ds m2 => zipD ds m2
end

/-! ### statements -/
inductive Out where
  | nx (env : EnvD) (m : Mem)
  | rt (d : D) (m : Mem)
  | bk (env : EnvD) (m : Mem)
  | ct (env : EnvD) (m : Mem)
  | exn (c : Str) (p : Option D) (env : EnvD) (m : Mem)
  | stuck
def Out.seq (o : Out) (f : EnvD → Mem → Out) : Out := match o with
  | .nx env m => f env m
  | o => o
def Res.out {α : Type} (env : EnvD) (r : Res α) (f : α → Mem → Out) : Out := match r with
  | .ok a m => f a m
  | .exn c p m => .exn c p env m
  | .stuck => .stuck
def tstO (env : EnvD) (r : Res D) (n : Nat) (f : Bool → Mem → Out) : Out := (r.gc n).out env fun x m1 => match x with
  | .bl b => f b m1
  | _ => .stuck
/-- a loop's turns, so many at most -/
def whileN (c : EnvD → Mem → Res D) (b : EnvD → Mem → Out) : Nat → EnvD → Mem → Out
  | 0, _, _ => .stuck
  | n + 1, env, m => tstO env (c env m) m.length fun t m1 => if t = true then (match b env m1 with
      | .nx e m2 => whileN c b n e m2
      | .ct e m2 => whileN c b n e m2
      | .bk e m2 => .nx e m2
      | o => o) else .nx env m1
def forL (o : Option (Nat × List D)) (t : Tg) (b : EnvD → Mem → Out) : List D → EnvD → Mem → Out
  | [], env, m => if chkW o m then .nx env m else .stuck
  | d :: ds, env, m => if chkW o m then (match asgT m t d env with
    | some e1 => (match b e1 m with
      | .nx e m2 => forL o t b ds e m2
      | .ct e m2 => forL o t b ds e m2
      | .bk e m2 => .nx e m2
      | o => o)
    | none => .stuck) else .stuck
def setD (o i v : D) (m : Mem) : Res Unit := match o, i with
  | .ref a, .int k => match m[a]? with
    | some (.lst xs) => (match ixN xs.length k with
      | some j => .ok () (m.set a (.lst (xs.set j v)))
      | none => .stuck)
    | _ => .stuck
  | _, _ => .stuck
mutual
def evalS (C : Ctl) : IS → EnvD → Mem → Out
  | .expr e, env, m => ((evalE e C env m).bind fun _ m1 => (Res.ok .non m1).gc m.length).out env fun _ m1 => .nx env m1
  | .asg t e, env, m => ((evalE e C env m).gc m.length).out env fun x m1 => match asgT m1 t x env with
    | some e1 => .nx e1 m1
    | none => .stuck
  | .aug i op e, env, m => match env[i]? with
    | some (some x) => ((evalE e C env m).bind fun y m1 => match x, y with
      | .int _, .int _ => binD op x y m1
      | _, _ => .stuck).out env fun z m2 => .nx (env.set i (some z)) m2
    | _ => .stuck
  | .setI o i e, env, m => ((evalE e C env m).bind fun v m1 => (evalE o C env m1).bind fun a m2 => (evalE i C env m2).bind fun k m3 => (setD a k v m3).bind fun _ m4 => (Res.ok .non m4).gc m.length).out env fun _ m4 => .nx env m4
  | .ifS c a b, env, m => tstO env (evalE c C env m) m.length fun t m1 => if t = true then evalB C a env m1 else evalB C b env m1
  | .whl c b, env, m => whileN (fun e m1 => evalE c C e m1) (fun e m1 => evalB C b e m1) C.turns env m
  | .forS t it b, env, m => (evalI it C env m).out env fun I m1 => forL I.2 t (fun e m2 => evalB C b e m2) I.1 env m1
  | .ret e, env, m => (evalE e C env m).out env fun d m1 => .rt d m1
  | .retN, _, m => .rt .non m
  | .rais c, env, m => .exn c none env m
  | .pass, env, m => .nx env m
  | .brk, env, m => .bk env m
  | .cnt, env, m => .ct env m
def evalB (C : Ctl) : List IS → EnvD → Mem → Out
  | [], env, m => .nx env m
  | s :: r, env, m => (evalS C s env m).seq fun e m1 => evalB C r e m1
end
/-! ### defs -/
structure FnI where
  np : Nat
  nn : Nat
  body : List IS
def startE (np nn : Nat) (ds : List D) : EnvD := ds.map some ++ List.replicate (nn - np) none
def bodyF (C : Ctl) (f : FnI) (ds : List D) (m : Mem) : Res D := if ds.length = f.np then (match evalB C f.body (startE f.np f.nn ds) m with
  | .rt d m1 => (Res.ok d m1).gc m.length
  | .nx _ m1 => (Res.ok .non m1).gc m.length
  | .exn c p _ m1 => .exn c p m1
  | _ => .stuck) else .stuck
structure Prog where
  fns : List FnI
  told : List (Nat × List (Str × Str))
  sub : Str → Str → Option Bool
  turns : Nat
/-- what runs at a level: calls one level down; a lambda's calls three -/
def Prog.ctl (P : Prog) (c1 c2 : CallT) (n : Nat) : Ctl := ⟨c1, c2, if 2 ≤ n then P.told else [], P.sub, P.turns⟩
def stepF (P : Prog) (C : Ctl) : CallT := fun f ds m => match P.fns[f]? with
  | some fi => bodyF C fi ds m
  | none => .stuck
def runT (P : Prog) : Nat → CallT × CallT × CallT
  | 0 => (fun _ _ _ => .stuck, fun _ _ _ => .stuck, fun _ _ _ => .stuck)
  | n + 1 => (stepF P (P.ctl (runT P n).1 (runT P n).2.2 n), (runT P n).1, (runT P n).2.1)
def runF (P : Prog) (n : Nat) : CallT := (runT P n).1
theorem runT_1 (P : Prog) : ∀ n, (runT P (n + 1)).2.1 = runF P n := fun n => rfl
theorem runT_2 (P : Prog) : ∀ n, (runT P (n + 2)).2.2 = runF P n := fun n => rfl
theorem runT_20 (P : Prog) : (runT P 0).2.2 = runF P 0 := rfl
theorem runT_21 (P : Prog) : (runT P 1).2.2 = runF P 0 := rfl
theorem runT_22 (P : Prog) (n : Nat) : (runT P n).2.2 = runF P (n - 2) := by
  rcases n with _ | _ | n
  · rfl
  · rfl
  · rfl
theorem runF_succ (P : Prog) (n : Nat) : runF P (n + 1) = stepF P (P.ctl (runF P n) (runF P (n - 2)) n) := by
  show stepF P (P.ctl (runT P n).1 (runT P n).2.2 n) = _
  rw [runT_22] <;> rfl
theorem runF_zero (P : Prog) (f : Nat) (ds : List D) (m : Mem) : runF P 0 f ds m = .stuck := rfl
end Dat

/-! Dat2 -/
set_option linter.all false
set_option maxRecDepth 100000
set_option maxHeartbeats 1000000
/-! Dat2: how plain data stand in the abstract heap. -/
namespace Dat
open PySem PySem.Spec L2 PyProof.Rows

section
variable (K : PySem.W.Frag)
/-- a list that nobody writes: locked, or of the written part -/
def SqF (H : Hp) (a : Addr) (xs : List V) : Prop :=
  (∃ o, H a = some (.frz o (.lst xs))) ∨
    ∃ (o : Obj) (its : Array Value) (n : Nat), K.lookup a = some o ∧ o.cls = .type "list" ∧ o.dict = none ∧ o.data = .seq its n ∧ its.size ≤ sizeLine ∧ Vals xs its.toList
mutual
inductive RelD (ρ : List Addr) (H : Hp) : D → V → Prop
  | non : RelD ρ H .non .non
  | bl (b : Bool) : RelD ρ H (.bl b) (.bl b)
  | int (i : Int) : RelD ρ H (.int i) (.int i)
  | str (x : Str) : RelD ρ H (.str x) (.str x)
  | tup {a : Addr} {vs : List V} {l : List D} : SqT K H a vs → RelDs ρ H l vs → RelD ρ H (.tup l) (.ref a)
  | fro {a : Addr} {vs : List V} {l : List D} : SqF K H a vs → RelDs ρ H l vs → RelD ρ H (.fro l) (.ref a)
  | ref {i : Nat} {a : Addr} : ρ[i]? = some a → RelD ρ H (.ref i) (.ref a)
inductive RelDs (ρ : List Addr) (H : Hp) : List D → List V → Prop
  | nil : RelDs ρ H [] []
  | cons {d : D} {v : V} {ds : List D} {vs : List V} : RelD ρ H d v → RelDs ρ H ds vs → RelDs ρ H (d :: ds) (v :: vs)
end
inductive RelF (ρ : List Addr) (H : Hp) : List (Str × D) → List (Str × V) → Prop
  | nil : RelF ρ H [] []
  | cons {x : Str} {d : D} {v : V} {ds : List (Str × D)} {vs : List (Str × V)} : RelD K ρ H d v → RelF ρ H ds vs → RelF ρ H ((x, d) :: ds) ((x, v) :: vs)
inductive RelKV (ρ : List Addr) (H : Hp) : List (Key × D) → List (Key × V) → Prop
  | nil : RelKV ρ H [] []
  | cons {x : Key} {d : D} {v : V} {ds : List (Key × D)} {vs : List (Key × V)} : RelD K ρ H d v → RelKV ρ H ds vs → RelKV ρ H ((x, d) :: ds) ((x, v) :: vs)
def CellR (ρ : List Addr) (H : Hp) (a : Addr) : Cell → Prop
  | .lst ds => ∃ vs, H a = some (.lst vs) ∧ RelDs K ρ H ds vs
  | .ins c fs => ∃ dx vs, H a = some (.ins (He.ga K c) dx vs) ∧ RelF K ρ H fs vs
  | .dct kvs => ∃ vs, H a = some (.dK vs) ∧ RelKV K ρ H kvs vs
structure Sto (T : List (Addr × Str)) (ρ : List Addr) (H : Hp) (m : Mem) : Prop where
  len : ρ.length = m.length
  nd : ρ.Nodup
  cell : ∀ (i : Nat) (c : Cell), m[i]? = some c → ∃ a, ρ[i]? = some a ∧ CellR K ρ H a c
  tabs : LamX.Tabs T H
end
structure Ext (ρ : List Addr) (H : Hp) (ρ' : List Addr) (H' : Hp) : Prop where
  pre : ρ <+: ρ'
  keep : ∀ a o, H a = some o → a ∉ ρ → (∀ ps, o ≠ .tbl ps) → H' a = some o
  new : ∀ a, a ∈ ρ' → a ∉ ρ → ∀ o, H a = some o → ∃ ps, o = .tbl ps
theorem Ext.refl (ρ : List Addr) (H : Hp) : Ext ρ H ρ H := ⟨List.prefix_refl _, fun _ _ h _ _ => h, fun _ h n => absurd h n⟩
theorem Ext.trans {ρ ρ1 ρ2 : List Addr} {H H1 H2 : Hp} (a : Ext ρ H ρ1 H1) (b : Ext ρ1 H1 ρ2 H2) : Ext ρ H ρ2 H2 := by
  have nin : ∀ c o, H c = some o → c ∉ ρ → (∀ ps, o ≠ .tbl ps) → c ∉ ρ1 := fun c o h n t q => by
    obtain ⟨ps, e⟩ := a.new c q n o h
    exact t ps e
  refine ⟨a.pre.trans b.pre, fun c o h n t => b.keep c o (a.keep c o h n t) (nin c o h n t) t, fun c q n o h => ?_⟩
  by_cases t : ∃ ps, o = .tbl ps
  · exact t
  · have t' : ∀ ps, o ≠ .tbl ps := fun ps e => t ⟨ps, e⟩
    exact b.new c q (nin c o h n t') o (a.keep c o h n t')
theorem Ext.get {ρ ρ' : List Addr} {H H' : Hp} (e : Ext ρ H ρ' H') {i : Nat} {a : Addr} (h : ρ[i]? = some a) : ρ'[i]? = some a := by
  obtain ⟨t, rfl⟩ := e.pre
  rw [List.getElem?_append_left (List.getElem?_eq_some_iff.mp h).1]
  exact h
section
variable {K : PySem.W.Frag} {T : List (Addr × Str)} {ρ ρ' : List Addr} {H H' : Hp} {m : Mem}
/-- what may stand at a place of the store -/
def cellish : HO → Bool
  | .lst _ | .ins _ _ _ | .dK _ => true
  | _ => false
theorem CellR.ish {a : Addr} {c : Cell} (h : CellR K ρ H a c) : ∃ o, H a = some o ∧ cellish o = true := by
  cases c with
  | lst l => obtain ⟨vs, h, _⟩ := h; exact ⟨_, h, rfl⟩
  | ins c fs => obtain ⟨dx, vs, h, _⟩ := h; exact ⟨_, h, rfl⟩
  | dct l => obtain ⟨vs, h, _⟩ := h; exact ⟨_, h, rfl⟩
theorem Sto.at_ (S : Sto K T ρ H m) {a : Addr} (h : a ∈ ρ) : ∃ o, H a = some o ∧ cellish o = true := by
  obtain ⟨i, hi, e⟩ := List.mem_iff_getElem.mp h
  have hm : i < m.length := S.len ▸ hi
  obtain ⟨b, e2, r⟩ := S.cell i m[i] (List.getElem?_eq_getElem hm)
  rw [List.getElem?_eq_getElem hi, e] at e2
  cases e2
  exact r.ish
theorem Sto.out (S : Sto K T ρ H m) {a : Addr} {o : HO} (h : H a = some o) (n : cellish o = false) : a ∉ ρ := fun q => by
  obtain ⟨u, h2, c⟩ := S.at_ q
  rw [h] at h2
  cases h2
  rw [n] at c
  cases c
theorem Sto.stay (S : Sto K T ρ H m) (E : Ext ρ H ρ' H') {a : Addr} {o : HO} (h : H a = some o) (n : cellish o = false) (nt : ∀ ps, o ≠ .tbl ps) : H' a = some o := E.keep a o h (S.out h n) nt
theorem Sto.sqT (S : Sto K T ρ H m) (E : Ext ρ H ρ' H') {a : Addr} {vs : List V} (h : SqT K H a vs) : SqT K H' a vs := by
  rcases h with (h | ⟨o, h⟩) | h
  · exact .inl (.inl (S.stay E h rfl fun _ z => nomatch z))
  · exact .inl (.inr ⟨o, S.stay E h rfl fun _ z => nomatch z⟩)
  · exact .inr h
theorem Sto.sqF (S : Sto K T ρ H m) (E : Ext ρ H ρ' H') {a : Addr} {vs : List V} (h : SqF K H a vs) : SqF K H' a vs := by
  rcases h with ⟨o, h⟩ | h
  · exact .inl ⟨o, S.stay E h rfl fun _ z => nomatch z⟩
  · exact .inr h
mutual
theorem RelD.mono (S : Sto K T ρ H m) (E : Ext ρ H ρ' H') : ∀ {d : D} {v : V}, RelD K ρ H d v → RelD K ρ' H' d v
  | _, _, .non => .non
  | _, _, .bl b => .bl b
  | _, _, .int i => .int i
  | _, _, .str x => .str x
  | _, _, .tup h r => .tup (S.sqT E h) (RelDs.mono S E r)
  | _, _, .fro h r => .fro (S.sqF E h) (RelDs.mono S E r)
  | _, _, .ref h => .ref (E.get h)
theorem RelDs.mono (S : Sto K T ρ H m) (E : Ext ρ H ρ' H') : ∀ {d : List D} {v : List V}, RelDs K ρ H d v → RelDs K ρ' H' d v
  | _, _, .nil => .nil
  | _, _, .cons h r => .cons (RelD.mono S E h) (RelDs.mono S E r)
end
theorem RelF.mono (S : Sto K T ρ H m) (E : Ext ρ H ρ' H') : ∀ {d : List (Str × D)} {v : List (Str × V)}, RelF K ρ H d v → RelF K ρ' H' d v
  | _, _, .nil => .nil
  | _, _, .cons h r => .cons (RelD.mono S E h) (RelF.mono S E r)
theorem RelKV.mono (S : Sto K T ρ H m) (E : Ext ρ H ρ' H') : ∀ {d : List (Key × D)} {v : List (Key × V)}, RelKV K ρ H d v → RelKV K ρ' H' d v
  | _, _, .nil => .nil
  | _, _, .cons h r => .cons (RelD.mono S E h) (RelKV.mono S E r)
/-- a place that is not of the changed ones -/
theorem CellR.mono (S : Sto K T ρ H m) (E : Ext ρ H ρ' H') {a : Addr} {c : Cell} (e : H' a = H a) (h : CellR K ρ H a c) : CellR K ρ' H' a c := by
  cases c with
  | lst l => obtain ⟨vs, h, r⟩ := h; exact ⟨vs, e.trans h, r.mono S E⟩
  | ins c fs => obtain ⟨dx, vs, h, r⟩ := h; exact ⟨dx, vs, e.trans h, r.mono S E⟩
  | dct l => obtain ⟨vs, h, r⟩ := h; exact ⟨vs, e.trans h, r.mono S E⟩
theorem tabs_ext (t : LamX.Tabs T H) (e : ∀ b o, H b = some o → cellish o = false → H' b = some o) : LamX.Tabs T H' := fun p hp => by
  obtain ⟨ps, h1, h2, h3⟩ := t p hp
  refine ⟨ps, e _ _ h1 rfl, h2, fun pos cv hc => ?_⟩
  obtain ⟨c, e1, e2⟩ := h3 pos cv hc
  exact ⟨c, e1, e _ _ e2 rfl⟩

/-! ### what happens to the store -/
/-- a new object that is not a place of the store -/
theorem Sto.aside (S : Sto K T ρ H m) {p : Addr} {o : HO} (np : H p = none) : Ext ρ H ρ (upd H p o) ∧ Sto K T ρ (upd H p o) m := by
  have ne : ∀ b u, H b = some u → b ≠ p := fun b u e => ne_of_none e np
  have E : Ext ρ H ρ (upd H p o) := ⟨List.prefix_refl _, fun a u h _ _ => by rw [upd_ne (ne a u h)]; exact h, fun _ h n => absurd h n⟩
  refine ⟨E, S.len, S.nd, fun i c h => ?_, tabs_ext S.tabs fun b u h _ => by rw [upd_ne (ne b u h)]; exact h⟩
  obtain ⟨a, e, r⟩ := S.cell i c h
  obtain ⟨u, hu, _⟩ := r.ish
  exact ⟨a, e, r.mono S E (upd_ne (ne a u hu))⟩
/-- an address that is tracked outside becomes a place of the store -/
theorem Sto.adopt (S : Sto K T ρ H m) {p : Addr} {c : Cell} (hp : p ∉ ρ) (r : CellR K ρ H p c) : Sto K T (ρ ++ [p]) H (m ++ [c]) := by
  have E : Ext ρ H (ρ ++ [p]) H → True := fun _ => trivial
  have up : ∀ {d : D} {v : V}, RelD K ρ H d v → RelD K (ρ ++ [p]) H d v := by
    intro d v h
    exact RelD.rec (motive_1 := fun d v _ => RelD K (ρ ++ [p]) H d v) (motive_2 := fun d v _ => RelDs K (ρ ++ [p]) H d v) .non .bl .int .str (fun h _ r => .tup h r) (fun h _ r => .fro h r)
      (fun h => .ref (by rw [List.getElem?_append_left (List.getElem?_eq_some_iff.mp h).1]; exact h)) .nil (fun _ _ a b => .cons a b) h
  have ups : ∀ {d : List D} {v : List V}, RelDs K ρ H d v → RelDs K (ρ ++ [p]) H d v := by
    intro d v h
    exact RelDs.rec (motive_1 := fun d v _ => RelD K (ρ ++ [p]) H d v) (motive_2 := fun d v _ => RelDs K (ρ ++ [p]) H d v) .non .bl .int .str (fun h _ r => .tup h r) (fun h _ r => .fro h r)
      (fun h => .ref (by rw [List.getElem?_append_left (List.getElem?_eq_some_iff.mp h).1]; exact h)) .nil (fun _ _ a b => .cons a b) h
  have upF : ∀ {d : List (Str × D)} {v : List (Str × V)}, RelF K ρ H d v → RelF K (ρ ++ [p]) H d v := by
    intro d v h
    induction h with
    | nil => exact .nil
    | cons a _ b => exact .cons (up a) b
  have upK : ∀ {d : List (Key × D)} {v : List (Key × V)}, RelKV K ρ H d v → RelKV K (ρ ++ [p]) H d v := by
    intro d v h
    induction h with
    | nil => exact .nil
    | cons a _ b => exact .cons (up a) b
  have upC : ∀ {a : Addr} {c : Cell}, CellR K ρ H a c → CellR K (ρ ++ [p]) H a c := by
    intro a c h
    cases c with
    | lst l => obtain ⟨vs, h, r⟩ := h; exact ⟨vs, h, ups r⟩
    | ins c fs => obtain ⟨dx, vs, h, r⟩ := h; exact ⟨dx, vs, h, upF r⟩
    | dct l => obtain ⟨vs, h, r⟩ := h; exact ⟨vs, h, upK r⟩
  refine ⟨by simp [S.len], ?_, fun i c' h => ?_, S.tabs⟩
  · rw [List.nodup_append]
    refine ⟨S.nd, by simp, fun a ha b hb => ?_⟩
    rw [List.mem_singleton] at hb
    rintro rfl
    exact hp (hb ▸ ha)
  · by_cases hi : i < m.length
    · rw [List.getElem?_append_left hi] at h
      obtain ⟨a, e, r'⟩ := S.cell i c' h
      exact ⟨a, by rw [List.getElem?_append_left (S.len ▸ hi)]; exact e, upC r'⟩
    · have hi2 : i = m.length := by
        have := (List.getElem?_eq_some_iff.mp h).1
        simp at this
        omega
      subst hi2
      simp at h
      subst h
      exact ⟨p, by rw [← S.len]; simp, upC r⟩
theorem Ext.adopt {p : Addr} (hp : H p = none) {H' : Hp} (E : Ext ρ H ρ H') : Ext ρ H (ρ ++ [p]) H' :=
  ⟨List.prefix_append _ _, E.keep, fun a q n => by
    rcases List.mem_append.mp q with q | q
    · exact absurd q n
    · rw [List.mem_singleton.mp q, hp]; exact fun o h => nomatch h⟩
/-- a new place -/
theorem Sto.alloc (S : Sto K T ρ H m) {p : Addr} {vs : List V} {ds : List D} (np : H p = none) (r : RelDs K ρ H ds vs) :
    Ext ρ H (ρ ++ [p]) (upd H p (.lst vs)) ∧ Sto K T (ρ ++ [p]) (upd H p (.lst vs)) (m ++ [.lst ds]) := by
  obtain ⟨E, S'⟩ := S.aside (o := .lst vs) np
  have hp : p ∉ ρ := fun q => by
    obtain ⟨o, h, _⟩ := S.at_ q
    rw [np] at h
    cases h
  exact ⟨E.adopt np, S'.adopt hp ⟨vs, upd_same, r.mono S E⟩⟩
/-- a place is written -/
theorem Sto.write (S : Sto K T ρ H m) {i : Nat} {a : Addr} {vs : List V} {ds : List D} (hi : ρ[i]? = some a) (r : RelDs K ρ H ds vs) :
    Ext ρ H ρ (upd H a (.lst vs)) ∧ Sto K T ρ (upd H a (.lst vs)) (m.set i (.lst ds)) := by
  have ha : a ∈ ρ := List.mem_of_getElem? hi
  have ne : ∀ b, b ∉ ρ → b ≠ a := fun b h e => h (e ▸ ha)
  have E : Ext ρ H ρ (upd H a (.lst vs)) := ⟨List.prefix_refl _, fun b u h n _ => by rw [upd_ne (ne b n)]; exact h, fun _ h n => absurd h n⟩
  refine ⟨E, by rw [List.length_set]; exact S.len, S.nd, fun j c h => ?_, tabs_ext S.tabs fun b u h n => by rw [upd_ne (ne b (S.out h n))]; exact h⟩
  by_cases hj : j = i
  · subst hj
    have hlt : j < m.length := by
      have := (List.getElem?_eq_some_iff.mp h).1
      simpa using this
    rw [List.getElem?_set_self hlt] at h
    cases h
    exact ⟨a, hi, vs, upd_same, r.mono S E⟩
  · rw [List.getElem?_set_ne (Ne.symm hj)] at h
    obtain ⟨b, e, r'⟩ := S.cell j c h
    refine ⟨b, e, r'.mono S E (upd_ne fun z => hj ?_)⟩
    subst z
    obtain ⟨h1, e1⟩ := List.getElem?_eq_some_iff.mp e
    obtain ⟨h2, e2⟩ := List.getElem?_eq_some_iff.mp hi
    exact (List.getElem_inj S.nd).mp (e1.trans e2.symm)
/-! ### forgetting -/
mutual
theorem RelD.cut {n : Nat} : ∀ {d : D} {v : V}, D.undr n d = true → RelD K ρ H d v → RelD K (ρ.take n) H d v
  | _, _, _, .non => .non
  | _, _, _, .bl b => .bl b
  | _, _, _, .int i => .int i
  | _, _, _, .str x => .str x
  | .tup l, _, u, .tup h r => .tup h (RelDs.cut (by simpa [D.undr] using u) r)
  | .fro l, _, u, .fro h r => .fro h (RelDs.cut (by simpa [D.undr] using u) r)
  | .ref i, _, u, .ref h => .ref (by
      have : i < n := by simpa [D.undr] using u
      rw [List.getElem?_take_of_lt this]
      exact h)
theorem RelDs.cut {n : Nat} : ∀ {d : List D} {v : List V}, D.undrL n d = true → RelDs K ρ H d v → RelDs K (ρ.take n) H d v
  | _, _, _, .nil => .nil
  | d :: l, _, u, .cons h r => by
    have u2 : D.undr n d = true ∧ D.undrL n l = true := by simpa [D.undrL] using u
    exact .cons (RelD.cut u2.1 h) (RelDs.cut u2.2 r)
end
theorem RelF.cut {n : Nat} : ∀ {d : List (Str × D)} {v : List (Str × V)}, (d.all fun p => p.2.undr n) = true → RelF K ρ H d v → RelF K (ρ.take n) H d v
  | _, _, _, .nil => .nil
  | _, _, u, .cons h r => by
    rw [List.all_cons, Bool.and_eq_true] at u
    exact .cons (h.cut u.1) (RelF.cut u.2 r)
theorem RelKV.cut {n : Nat} : ∀ {d : List (Key × D)} {v : List (Key × V)}, (d.all fun p => p.2.undr n) = true → RelKV K ρ H d v → RelKV K (ρ.take n) H d v
  | _, _, _, .nil => .nil
  | _, _, u, .cons h r => by
    rw [List.all_cons, Bool.and_eq_true] at u
    exact .cons (h.cut u.1) (RelKV.cut u.2 r)
theorem CellR.cut {n : Nat} {a : Addr} {c : Cell} (u : c.undr n = true) (h : CellR K ρ H a c) : CellR K (ρ.take n) H a c := by
  cases c with
  | lst l => obtain ⟨vs, h, r⟩ := h; exact ⟨vs, h, r.cut u⟩
  | ins c fs => obtain ⟨dx, vs, h, r⟩ := h; exact ⟨dx, vs, h, r.cut u⟩
  | dct l => obtain ⟨vs, h, r⟩ := h; exact ⟨vs, h, r.cut u⟩
theorem Sto.cut (S : Sto K T ρ H m) {n : Nat} (u : ∀ c ∈ m.take n, c.undr n = true) : Sto K T (ρ.take n) H (m.take n) := by
  refine ⟨by rw [List.length_take, List.length_take, S.len], S.nd.sublist (List.take_sublist _ _), fun i c h => ?_, S.tabs⟩
  have hm := List.mem_of_getElem? h
  have hi : i < n := by
    have := (List.getElem?_eq_some_iff.mp h).1
    rw [List.length_take] at this
    omega
  rw [List.getElem?_take_of_lt hi] at h
  obtain ⟨a, e, r⟩ := S.cell i c h
  exact ⟨a, by rw [List.getElem?_take_of_lt hi]; exact e, r.cut (u c hm)⟩
theorem Ext.cut {n : Nat} (E : Ext ρ H ρ' H') (hn : ρ.length = n) : Ext ρ H (ρ'.take n) H' := by
  obtain ⟨t, rfl⟩ := E.pre
  have e : (ρ ++ t).take n = ρ := by rw [← hn]; simp
  rw [e]
  exact ⟨List.prefix_refl _, E.keep, fun _ h k => absurd h k⟩
/-- the store behind a forgetting -/
theorem gc_ok {n : Nat} {a : D} {v : V} {m' : Mem} (E : Ext ρ H ρ' H') (S' : Sto K T ρ' H' m') (hn : ρ.length = n) (r : RelD K ρ' H' a v) :
    ∃ ρ2, Ext ρ H ρ2 H' ∧ Sto K T ρ2 H' (gcM n a m') ∧ RelD K ρ2 H' a v := by
  unfold gcM
  split
  · rename_i h
    exact ⟨_, E.cut hn, S'.cut h.2, r.cut h.1⟩
  · exact ⟨_, E, S', r⟩
end
end Dat

/-! Dat3 -/
set_option linter.all false
set_option maxRecDepth 100000
/-! Dat3: from the text to the small language. -/
namespace Dat
open PySem L2

structure Ctx where
  N : List Str
  sc : Scope
  blk : Bool
  fns : List (Str × List Str)
  glos : List (Str × D)
  exs : List Str
  told : List (Nat × List (Str × Str))
  lam : Bool

def okName (x : Str) : Bool := !(x == ("__debug__" : Str)) && !(x == ("__classdict__" : Str)) && !(x == ("__name__" : Str))
def Ctx.slot (c : Ctx) (x : Str) : Option Nat := match c.sc.names.lookup x with
  | some .local | some .cell | some .free => (match c.N.findIdx? (· == x) with
    | some i => if c.N[i]? = some x ∧ okName x = true then some i else none
    | none => none)
  | _ => none
def Ctx.isGl (c : Ctx) (x : Str) : Bool := decide (c.sc.names.lookup x = some .globalImplicit) && okName x
def bltNames : List Str := ["abs", "len", "int", "str", "list", "tuple", "min", "max", "range", "reversed", "enumerate", "zip", "isinstance", "any", "sorted"]
def bltOf (x : Str) (n : Nat) : Option Blt :=
  if x = ("abs" : Str) ∧ n = 1 then some .abs
  else if x = ("len" : Str) ∧ n = 1 then some .len
  else if x = ("int" : Str) ∧ n = 1 then some .int
  else if x = ("str" : Str) ∧ n = 1 then some .str
  else if x = ("list" : Str) ∧ n = 1 then some .list
  else if x = ("tuple" : Str) ∧ n = 1 then some .tuple
  else if x = ("min" : Str) ∧ n = 2 then some .min2
  else if x = ("max" : Str) ∧ n = 2 then some .max2
  else none
def mthOf (x : Str) (n : Nat) : Option Mth :=
  if x = ("append" : Str) ∧ n = 1 then some .append
  else if x = ("pop" : Str) ∧ n = 0 then some .pop
  else if x = ("pop" : Str) ∧ n = 1 then some .popAt
  else none
def okBin : Operator → Bool
  | .Add | .Sub | .Mult | .FloorDiv | .Mod | .Pow => true
  | _ => false
/-- a set display, a starred expression: never compiled -/
def plainE : Expr → Bool
  | .Set .. | .Starred .. => false
  | _ => true
/-- no parameters -/
def plainLam : Arguments → Bool
  | ⟨[], [], none, [], [], none, []⟩ => true
  | _ => false
def noSlice : Expr → Bool
  | .Slice .. => false
  | _ => true
def nameE : Expr → Bool
  | .Name .. => true
  | _ => false
/-- list(reversed(a)) -/
def lrevOf (c : Ctx) (f : Str) : List Expr → Option Expr
  | [.Call (.Name g _) [a] [] _] => if f = ("list" : Str) ∧ g = ("reversed" : Str) ∧ c.isGl g = true then some a else none
  | _ => none
def isTupE : Expr → Bool
  | .Tuple .. => true
  | _ => false
def cConst : Const → Option D
  | .none => some .non
  | .bool b => some (.bl b)
  | .int i => some (.int i)
  | .str s => some (.str s)
  | _ => none
def cTg (c : Ctx) : Nat → Expr → Option Tg
  | 0, _ => none
  | n + 1, e => match e with
    | .Name x _ => (match c.slot x with
      | some i => if c.sc.names.lookup x = some .local ∨ (c.sc.names.lookup x = some .cell ∧ c.blk = false) then some (.var i) else none
      | none => none)
    | .Tuple es _ _ => (es.mapM (cTg c n)).map .tup
    | _ => none
/-- own names of a comprehension, with their slots -/
def ownOf (N : List Str) (scope : Scope) : List (Str × Nat) := scope.names.filterMap fun p => match p.2 with
  | .local | .cell => (N.findIdx? (· == p.1)).map fun i => (p.1, i)
  | _ => none
def ownI (N : List Str) (scope : Scope) : List Nat := (ownOf N scope).map (·.2)
mutual
def tgVars : Tg → List Nat
  | .var i => [i]
  | .tup l => tgVarsL l
def tgVarsL : List Tg → List Nat
  | [] => []
  | t :: l => tgVars t ++ tgVarsL l
end
mutual
def cE : Nat → Ctx → Expr → Option IE
  | 0, _, _ => none
  | n + 1, c, e => match e with
    | .Name x _ => (match c.slot x with
      | some i => some (.var i)
      | none => if c.isGl x = true then (c.glos.lookup x).map (.glo x) else none)
    | .Constant k _ _ => (cConst k).map .con
    | .BinOp a op b _ => if okBin op = true then (cE n c a).bind fun a' => (cE n c b).bind fun b' => some (.bin op a' b') else none
    | .UnaryOp .USub a _ => (cE n c a).bind fun a' => some (.neg a')
    | .UnaryOp .Not a _ => (cE n c a).bind fun a' => some (.notE a')
    | .Compare a [op] [b] _ => (cE n c a).bind fun a' => (cE n c b).bind fun b' => some (.cmp op a' b')
    | .Compare a [o1, o2] [b, d] _ => (cE n c a).bind fun a' => (cE n c b).bind fun b' => (cE n c d).bind fun d' => some (.cmp2 o1 o2 a' b' d')
    | .BoolOp .And [a, b] _ => (cE n c a).bind fun a' => (cE n c b).bind fun b' => some (.andE a' b')
    | .BoolOp .Or [a, b] _ => (cE n c a).bind fun a' => (cE n c b).bind fun b' => some (.orE a' b')
    | .BoolOp .And (a :: b :: d :: r) p => (cE n c a).bind fun a' => (cE n c (.BoolOp .And (b :: d :: r) p)).bind fun b' => some (.andE a' b')
    | .BoolOp .Or (a :: b :: d :: r) p => (cE n c a).bind fun a' => (cE n c (.BoolOp .Or (b :: d :: r) p)).bind fun b' => some (.orE a' b')
    | .IfExp t a b _ => (cE n c t).bind fun t' => (cE n c a).bind fun a' => (cE n c b).bind fun b' => some (.ifE t' a' b')
    | .Subscript a (.Slice lo hi none _) _ => (cE n c a).bind fun a' => (cO n c lo).bind fun lo' => (cO n c hi).bind fun hi' => some (.slc lo.isSome hi.isSome a' lo' hi')
    | .Subscript a b _ => if noSlice b = true then (cE n c a).bind fun a' => (cE n c b).bind fun b' => some (.idx a' b') else none
    | .Tuple es _ _ => (cEs n c es).bind fun l => some (.tup l)
    | .List es _ => (cEs n c es).bind fun l => some (.lst l)
    | .Call (.Name f _) [.Lambda ps body scope _] [] _ => if c.isGl f = true then (match c.fns.findIdx? (fun q => q.1 == f) with
      | some i => if (c.told.lookup i).isSome = true ∧ c.lam = true ∧ plainLam ps = true ∧ LamX.lamSB c.sc scope = true then (cE n { c with sc := scope, blk := true, lam := false, told := [] } body).bind fun e' => some (.told i e') else none
      | none => none) else none
    | .Call (.Name f _) args [] _ => if c.isGl f = true then (match c.fns.findIdx? (fun q => q.1 == f) with
      | some i => (match c.fns[i]? with
        | some q => if q.1 = f ∧ q.2.length = args.length then (cEs n c args).bind fun l => some (.call i l) else none
        | none => none)
      | none => (match lrevOf c f args with
        | some a => (cE n c a).bind fun a' => some (.lrev a')
        | none => (bltOf f args.length).bind fun b => (cEs n c args).bind fun l => some (.blt b l))) else none
    | .Call (.Attribute o f ap) args [] p => if (ap.endLine == p.line) = true ∧ nameE o = true then (mthOf f args.length).bind fun k => (cE n c o).bind fun o' => (cEs n c args).bind fun l => some (.mth k o' l) else none
    | .ListComp elt [⟨tg, it, ifs, as⟩] scope _ =>
      if as = 0 ∧ blkC c.N c.sc scope (ownOf c.N scope) = true ∧ plainE it = true then
        (cI n c tg it).bind fun it' => (cTg { c with sc := relS scope c.sc, blk := true, lam := false } n tg).bind fun tg' =>
          (match ifs with
            | [] => some (IE.con (.bl true))
            | [t] => cE n { c with sc := relS scope c.sc, blk := true, lam := false } t
            | _ => (none : Option IE)).bind fun t' => (cE n { c with sc := relS scope c.sc, blk := true, lam := false } elt).bind fun e' =>
          if (tgVars tg').all (fun i => decide (i ∈ ownI c.N scope)) = true then some (.comp tg' it' t' e' (ownI c.N scope)) else none
      else none
    | _ => none
def cO : Nat → Ctx → Option Expr → Option IE
  | 0, _, _ => none
  | n + 1, c, e => match e with
    | none => some .nop
    | some e => cE n c e
def cEs : Nat → Ctx → List Expr → Option (List IE)
  | 0, _, _ => none
  | n + 1, c, es => match es with
    | [] => some []
    | e :: r => (cE n c e).bind fun e' => (cEs n c r).bind fun r' => some (e' :: r')
def cI : Nat → Ctx → Expr → Expr → Option II
  | 0, _, _, _ => none
  | n + 1, c, tg, e => match e with
    | .Call (.Name f _) [a] [] _ => if c.isGl f = true ∧ f = ("range" : Str) then (cE n c a).bind fun a' => some (.rng1 [a'])
      else if c.isGl f = true ∧ f = ("reversed" : Str) then (cE n c a).bind fun a' => some (.rev a')
      else if c.isGl f = true ∧ f = ("enumerate" : Str) ∧ isTupE tg = true then (cE n c a).bind fun a' => some (.enm a')
      else (cE n c e).bind fun e' => some (.seq e')
    | .Call (.Name f _) [a, b] [] _ => if c.isGl f = true ∧ f = ("range" : Str) then (cE n c a).bind fun a' => (cE n c b).bind fun b' => some (.rng [a', b'])
      else if c.isGl f = true ∧ f = ("zip" : Str) ∧ isTupE tg = true then (cE n c a).bind fun a' => (cE n c b).bind fun b' => some (.zip [a', b'])
      else (cE n c e).bind fun e' => some (.seq e')
    | e => (cE n c e).bind fun e' => some (.seq e')
end
end Dat

/-! Dat4 -/
set_option linter.all false
set_option maxRecDepth 100000
set_option maxHeartbeats 1000000
/-! Dat4: what the small language computes, the model computes. Expressions. -/
namespace Dat
open PySem PySem.Spec L2 PyProof.Rows

def RelP (K : PySem.W.Frag) (ρ : List Addr) (H : Hp) : Option D → Option Addr → Prop
  | none, none => True
  | some d, some a => ∃ v, H a = some (.xd [("part", v)]) ∧ RelD K ρ H d v
  | _, _ => False
/-- from a store: whatever the store behind is, this holds -/
def Then (K : PySem.W.Frag) (T : List (Addr × Str)) {α : Type} (ρ : List Addr) (H : Hp) (r : Res α) (ok : α → Mem → List Addr → Hp → Prop) (ex : Str → Option D → Mem → List Addr → Hp → Prop) : Prop :=
  match r with
  | .ok a m => ∀ ρ' H', Ext ρ H ρ' H' → Sto K T ρ' H' m → ok a m ρ' H'
  | .exn c p m => ∀ ρ' H', Ext ρ H ρ' H' → Sto K T ρ' H' m → ex c p m ρ' H'
  | .stuck => False
section
variable {K : PySem.W.Frag} {T : List (Addr × Str)} {ρ ρ' ρ1 : List Addr} {H H' H1 : Hp} {m m1 : Mem} {α β : Type}
theorem Then.ext {r : Res α} {ok : α → Mem → List Addr → Hp → Prop} {ex : Str → Option D → Mem → List Addr → Hp → Prop} (h : Then K T ρ H r ok ex) (E : Ext ρ H ρ1 H1) : Then K T ρ1 H1 r ok ex := by
  cases r with
  | ok a m => exact fun ρ' H' E' S => h ρ' H' (E.trans E') S
  | exn c p m => exact fun ρ' H' E' S => h ρ' H' (E.trans E') S
  | stuck => exact h
theorem Then.imp {r : Res α} {ok ok' : α → Mem → List Addr → Hp → Prop} {ex ex' : Str → Option D → Mem → List Addr → Hp → Prop} (h : Then K T ρ H r ok ex)
    (h1 : ∀ a m ρ' H', Ext ρ H ρ' H' → Sto K T ρ' H' m → ok a m ρ' H' → ok' a m ρ' H') (h2 : ∀ c p m ρ' H', Ext ρ H ρ' H' → Sto K T ρ' H' m → ex c p m ρ' H' → ex' c p m ρ' H') : Then K T ρ H r ok' ex' := by
  cases r with
  | ok a m => exact fun ρ' H' E S => h1 _ _ _ _ E S (h ρ' H' E S)
  | exn c p m => exact fun ρ' H' E S => h2 _ _ _ _ _ E S (h ρ' H' E S)
  | stuck => exact h
theorem Then.bind {r : Res α} {f : α → Mem → Res β} {ok : β → Mem → List Addr → Hp → Prop} {ex : Str → Option D → Mem → List Addr → Hp → Prop} (h : Then K T ρ H (r.bind f) ok ex) :
    Then K T ρ H r (fun a m ρ1 H1 => Then K T ρ1 H1 (f a m) ok ex) ex := by
  cases r with
  | ok a m => exact fun ρ1 H1 E _ => Then.ext (r := f a m) h E
  | exn c p m => exact h
  | stuck => exact h
end
def REnv (K : PySem.W.Frag) (ρ : List Addr) (H : Hp) (env : EnvD) (σ : L2.St) : Prop := env.length = σ.length ∧ ∀ (i : Nat) (d : D), env[i]? = some (some d) → ∃ v, σ[i]? = some (some v) ∧ RelD K ρ H d v
section
variable {K : PySem.W.Frag} {T : List (Addr × Str)} {ρ ρ' : List Addr} {H H' : Hp} {m : Mem} {env : EnvD} {σ : L2.St}
theorem REnv.mono (R : REnv K ρ H env σ) (S : Sto K T ρ H m) (E : Ext ρ H ρ' H') : REnv K ρ' H' env σ := ⟨R.1, fun i d h => by
  obtain ⟨v, h1, h2⟩ := R.2 i d h
  exact ⟨v, h1, h2.mono S E⟩⟩
theorem REnv.set (R : REnv K ρ H env σ) {i : Nat} {d : D} {v : V} (r : RelD K ρ H d v) : REnv K ρ H (env.set i (some d)) (σ.set i (some v)) := by
  refine ⟨by simp [R.1], fun j d' h => ?_⟩
  by_cases hj : j = i
  · subst hj
    have hlt : j < env.length := by
      have := (List.getElem?_eq_some_iff.mp h).1
      simpa using this
    rw [List.getElem?_set_self hlt] at h
    cases h
    exact ⟨v, List.getElem?_set_self (R.1 ▸ hlt), r⟩
  · rw [List.getElem?_set_ne (Ne.symm hj)] at h
    obtain ⟨v', h1, h2⟩ := R.2 j d' h
    exact ⟨v', by rw [List.getElem?_set_ne (Ne.symm hj)]; exact h1, h2⟩
theorem REnv.wipe (R : REnv K ρ H env σ) : ∀ vs : List Nat, REnv K ρ H (wipeE env vs) (L2.wipe σ vs)
  | [] => R
  | v :: vs => by
    have ih := REnv.wipe R vs
    unfold wipeE L2.wipe
    refine ⟨by simp [ih.1], fun j d h => ?_⟩
    by_cases hj : j = v
    · subst hj
      have hlt : j < (wipeE env vs).length := by
        have := (List.getElem?_eq_some_iff.mp h).1
        simpa using this
      rw [List.getElem?_set_self hlt] at h
      cases h
    · rw [List.getElem?_set_ne (Ne.symm hj)] at h
      obtain ⟨v', h1, h2⟩ := ih.2 j d h
      exact ⟨v', by rw [List.getElem?_set_ne (Ne.symm hj)]; exact h1, h2⟩
end
/-- what an exception's class, own dict and store must meet -/
def exW (K : PySem.W.Frag) (W : WX) (σ : L2.St) : Str → Option D → Mem → List Addr → Hp → Prop := fun cc p _ ρ' H' => ∀ dd, RelP K ρ' H' p dd → W (.ref (He.ga K cc)) dd σ H'
section
variable (K : PySem.W.Frag) (T : List (Addr × Str))
def tE (C : Ctl) (W : WX) (e : IE) : TE := fun σ H Q => ∃ ρ m env, Sto K T ρ H m ∧ REnv K ρ H env σ ∧ Then K T ρ H (evalE e C env m) (fun d _ ρ' H' => ∀ v, RelD K ρ' H' d v → Q v H') (exW K W σ)
def tT (C : Ctl) (W : WX) (e : IE) : TT := fun σ H Q => ∃ ρ m env, Sto K T ρ H m ∧ REnv K ρ H env σ ∧ Then K T ρ H (evalE e C env m) (fun d _ ρ' H' => ∃ b, d = .bl b ∧ Q b H') (exW K W σ)
def tA (C : Ctl) (W : WX) (l : List IE) : TA := fun σ H Q => ∃ ρ m env, Sto K T ρ H m ∧ REnv K ρ H env σ ∧ Then K T ρ H (evalEs l C env m) (fun ds _ ρ' H' => ∀ vs, RelDs K ρ' H' ds vs → Q vs H') (exW K W σ)
/-- a def's promise -/
def spF (P : Prog) (n i : Nat) : Sp := fun vs H Q E => ∃ ρ m ds, Sto K T ρ H m ∧ RelDs K ρ H ds vs ∧
  Then K T ρ H (runF P n i ds m) (fun d _ ρ' H' => ∀ v, RelD K ρ' H' d v → Q v H') (fun cc p _ ρ' H' => ∀ dd, RelP K ρ' H' p dd → E (.ref (He.ga K cc)) dd H')
end
theorem Then.ne {K : PySem.W.Frag} {T : List (Addr × Str)} {α : Type} {ρ : List Addr} {H : Hp} {r : Res α} {ok : α → Mem → List Addr → Hp → Prop} {ex : Str → Option D → Mem → List Addr → Hp → Prop} (h : Then K T ρ H r ok ex) : r ≠ .stuck := fun e => by
  rw [e] at h
  exact h
theorem runF_len {P : Prog} : ∀ {n i : Nat} {ds : List D} {m : Mem}, runF P n i ds m ≠ .stuck → ∃ fi, P.fns[i]? = some fi ∧ ds.length = fi.np
  | 0, _, _, _, h => absurd (runF_zero _ _ _ _) h
  | n + 1, i, ds, m, h => by
    rw [runF_succ] at h
    unfold stepF at h
    split at h
    · rename_i fi hf
      refine ⟨fi, hf, ?_⟩
      unfold bodyF at h
      split at h
      · assumption
      · exact absurd rfl h
    · exact absurd rfl h
structure FnsOk (c : Ctx) (Pg : Prog) (n : Nat) (T : List (Addr × Str)) (P : Program) (w : World) (K : PySem.W.Frag) (mg : Str → Option Value) (base : Heap) : Prop where
  fn : ∀ i q, c.fns[i]? = some q → ∃ f fd, mg q.1 = some (.ref f) ∧ PySem.W.keepIn K (.ref f) = true ∧ Binds K fd q.2 [] ∧ FnOk P w K mg base (L2.CX P w) n f fd q.2 (spF K T Pg n i)
  np : ∀ (i : Nat) (q : Str × List Str) (fi : FnI), c.fns[i]? = some q → Pg.fns[i]? = some fi → fi.np = q.2.length
/-- what a lambda of the body asks -/
structure LamOk (c : Ctx) (C : Ctl) (Pg : Prog) (n : Nat) (T : List (Addr × Str)) (X : Cx) : Prop where
  call2 : C.call2 = runF Pg (n - 2)
  code : ∃ cc PP, X.env.code = .ref cc ∧ LamX.TabB X.base X.mg cc PP ∧ (PP, X.env.qual ++ "<lambda>") ∈ T ∧ ∀ p ∈ T, p.1 = PP → p.2 = X.env.qual ++ "<lambda>"
/-- the except clauses of a told-def: their classes and texts -/
inductive HdM (K : PySem.W.Frag) (mg : Str → Option Value) (sg : Scope) : List ExceptHandler → List (Str × Str) → Prop
  | nil : HdM K mg sg [] []
  | cons {e ret : Str} {np p5 p6 p7 : Pos} {j : Nat} {hs : List ExceptHandler} {cl : List (Str × Str)} (hg : sg.names.lookup e = some .globalImplicit) (hd : (e == ("__debug__" : Str)) = false) (hm : mg e = some (.ref (He.ga K e))) (r : HdM K mg sg hs cl) :
      HdM K mg sg (.ExceptHandler (some (.Name e np)) none [.Return (some (.Constant (.str ret) j p5)) p6] p7 :: hs) ((e, ret) :: cl)
/-- the def at i calls what it got and tells what it raises by a text -/
def TolOk (K : PySem.W.Frag) (mg : Str → Option Value) (c : Ctx) (i : Nat) (cl : List (Str × Str)) : Prop :=
  ∃ (x a : Str) (g : Addr) (pg : Arguments) (bg : List Stmt) (sg : Scope) (Ng : List Str) (dV kV doc pm cdv ct oc : Value) (od an : Option Addr) (osl : Array (Option Value)) (h₀ : ExceptHandler) (hs : List ExceptHandler) (p1 p2 p3 p8 : Pos),
    c.fns[i]? = some (x, [a]) ∧ mg x = some (.ref g) ∧ PySem.W.keepIn K (.ref g) = true ∧ K.lookup g = some ⟨oc, od, .func (PySem.W.fnOf x x pg bg sg dV kV doc pm an cdv ct), osl⟩ ∧ PySem.W.codeIn K cdv x = true ∧
    Binds K (PySem.W.fnOf x x pg bg sg dV kV doc pm an cdv ct) [a] [] ∧ FnScope Ng [a] sg ∧ Ng[0]? = some a ∧ L2.Vis sg a ∧ (a == ("__debug__" : Str)) = false ∧ (a == ("__classdict__" : Str)) = false ∧
    bg = [.Try [.Return (some (.Call (.Name a p1) [] [] p2)) p3] (h₀ :: hs) [] [] p8] ∧ HdM K mg sg (h₀ :: hs) cl
structure Good (c : Ctx) (C : Ctl) (Pg : Prog) (n : Nat) (T : List (Addr × Str)) (X : Cx) (W : WX) : Prop where
  call : C.call = runF Pg n
  lam : c.lam = true → 2 ≤ n → LamOk c C Pg n T X
  two : ∀ i cl, C.told.lookup i = some cl → 2 ≤ n
  calm : X.calm = true
  nd : X.N.Nodup
  hN : X.N = c.N
  sc : X.env.scope = c.sc
  room : Room n X.A
  tk : Takes X W
  po : PassesOwn (model X.prog X.w) X.A X.env X.xe
  fn : c.blk = false → ∀ x, X.fn x = true
  fns : ∀ k, k ≤ n → FnsOk c Pg k T X.prog X.w X.K X.mg X.base
  glos : ∀ x d, c.glos.lookup x = some d → ∃ u v, X.mg x = some u ∧ RelV v u ∧ ∀ ρ H, RelD X.K ρ H d v
  blt : ∀ x ∈ bltNames, X.mg x = none
  told : ∀ i cl, C.told.lookup i = some cl → TolOk X.K X.mg c i cl
  exm : ∀ c c' b, C.sub c c' = some b → PySem.W.exmOne X.K (.ref (He.ga X.K c)) (.ref (He.ga X.K c')) = some b
  exs : ∀ x ∈ c.exs, PySem.W.excIn X.K (He.ga X.K x) He.veBase "ValueError.__new__" = true ∧ X.mg x = some (.ref (He.ga X.K x)) ∧ PySem.W.keepIn X.K (.ref (He.ga X.K x)) = true ∧ Raises X (.ref (He.ga X.K x))
noncomputable abbrev ctlOf (Pg : Prog) (n : Nat) : Ctl := Pg.ctl (runF Pg n) (runF Pg (n - 2)) n

theorem PE.imp {X : Cx} {e : Expr} {t t' : TE} (h : PE X e t) (i : ∀ σ H Q, t' σ H Q → t σ H Q) : PE X e t' := ⟨fun pins s σ H Q I q => h.run pins s σ H Q I (i σ H Q q)⟩
theorem PT.imp {X : Cx} {e : Expr} {t t' : TT} (h : PT X e t) (i : ∀ σ H Q, t' σ H Q → t σ H Q) : PT X e t' := ⟨fun pins s σ H Q I q => h.run pins s σ H Q I (i σ H Q q)⟩
theorem PW.imp {X : Cx} {e : Expr} {t t' : TT} (h : PW X e t) (i : ∀ σ H Q, t' σ H Q → t σ H Q) : PW X e t' := ⟨fun whole pins s σ H Q I q => h.run whole pins s σ H Q I (i σ H Q q)⟩
theorem PA.imp {X : Cx} {e : List Expr} {t t' : TA} (h : PA X e t) (i : ∀ σ H Q, t' σ H Q → t σ H Q) : PA X e t' := ⟨fun pos pins s σ H Q I q => h.run pos pins s σ H Q I (i σ H Q q)⟩

section
variable {K : PySem.W.Frag} {T : List (Addr × Str)} {C : Ctl} {W : WX} {ρ : List Addr} {H : Hp} {m : Mem} {env : EnvD} {σ : L2.St} {β : Type}
/-- behind an expression: its value, and what is left to do -/
structure Mid (K : PySem.W.Frag) (T : List (Addr × Str)) (ρ : List Addr) (H : Hp) (env : EnvD) (σ : L2.St) (k : D → Mem → Res β) (ok : β → Mem → List Addr → Hp → Prop) (ex : Str → Option D → Mem → List Addr → Hp → Prop) (x : V) (H1 : Hp) : Prop where
  ex : ∃ ρ1 m1 d, Ext ρ H ρ1 H1 ∧ Sto K T ρ1 H1 m1 ∧ REnv K ρ1 H1 env σ ∧ RelD K ρ1 H1 d x ∧ Then K T ρ1 H1 (k d m1) ok ex
theorem seqE {a : IE} {k : D → Mem → Res β} {ok : β → Mem → List Addr → Hp → Prop} {Q : VK} (S : Sto K T ρ H m) (R : REnv K ρ H env σ) (h : Then K T ρ H ((evalE a C env m).bind k) ok (exW K W σ))
    (q : ∀ x H1 ρ1 m1 d, Ext ρ H ρ1 H1 → Sto K T ρ1 H1 m1 → REnv K ρ1 H1 env σ → RelD K ρ1 H1 d x → Then K T ρ1 H1 (k d m1) ok (exW K W σ) → Q x H1) : tE K T C W a σ H Q :=
  ⟨ρ, m, env, S, R, h.bind.imp (fun d m1 ρ1 H1 E1 S1 h1 v r => q v H1 ρ1 m1 d E1 S1 (R.mono S E1) r h1) fun _ _ _ _ _ _ _ z => z⟩
theorem seqT {a : IE} {k : D → Mem → Res β} {ok : β → Mem → List Addr → Hp → Prop} {Q : Bool → Hp → Prop} (S : Sto K T ρ H m) (R : REnv K ρ H env σ) (h : Then K T ρ H ((evalE a C env m).bind fun x m1 => asB x fun b => k (.bl b) m1) ok (exW K W σ))
    (q : ∀ b H1 ρ1 m1, Ext ρ H ρ1 H1 → Sto K T ρ1 H1 m1 → REnv K ρ1 H1 env σ → Then K T ρ1 H1 (k (.bl b) m1) ok (exW K W σ) → Q b H1) : tT K T C W a σ H Q :=
  ⟨ρ, m, env, S, R, h.bind.imp (fun d m1 ρ1 H1 E1 S1 h1 => by
    cases d with
    | bl b => exact ⟨b, rfl, q b H1 ρ1 m1 E1 S1 (R.mono S E1) h1⟩
    | _ => exact (show False from h1).elim) fun _ _ _ _ _ _ _ z => z⟩
theorem seqA {a : List IE} {k : List D → Mem → Res β} {ok : β → Mem → List Addr → Hp → Prop} {Q : List V → Hp → Prop} (S : Sto K T ρ H m) (R : REnv K ρ H env σ) (h : Then K T ρ H ((evalEs a C env m).bind k) ok (exW K W σ))
    (q : ∀ x H1 ρ1 m1 d, Ext ρ H ρ1 H1 → Sto K T ρ1 H1 m1 → REnv K ρ1 H1 env σ → RelDs K ρ1 H1 d x → Then K T ρ1 H1 (k d m1) ok (exW K W σ) → Q x H1) : tA K T C W a σ H Q :=
  ⟨ρ, m, env, S, R, h.bind.imp (fun d m1 ρ1 H1 E1 S1 h1 v r => q v H1 ρ1 m1 d E1 S1 (R.mono S E1) r h1) fun _ _ _ _ _ _ _ z => z⟩
/-- the end: a value without a change of the store -/
theorem Then.ret {d : D} {v : V} {Q : VK} {ex : Str → Option D → Mem → List Addr → Hp → Prop} (S : Sto K T ρ H m) (h : Then K T ρ H (.ok d m) (fun d _ ρ' H' => ∀ v, RelD K ρ' H' d v → Q v H') ex) (r : RelD K ρ H d v) : Q v H := h ρ H (Ext.refl _ _) S v r
/-- .. with a new object aside -/
theorem Then.aside {d : D} {v : V} {Q : VK} {p : Addr} {o : HO} {ex : Str → Option D → Mem → List Addr → Hp → Prop} (S : Sto K T ρ H m) (h : Then K T ρ H (.ok d m) (fun d _ ρ' H' => ∀ v, RelD K ρ' H' d v → Q v H') ex) (np : H p = none)
    (r : ∀ ρ' H', Ext ρ H ρ' H' → H' = upd H p o → RelD K ρ' H' d v) : Q v (upd H p o) := by
  obtain ⟨E, S'⟩ := S.aside (o := o) np
  exact h ρ _ E S' v (r _ _ E rfl)
theorem Then.alloc {ds : List D} {vs : List V} {Q : VK} {p : Addr} {ex : Str → Option D → Mem → List Addr → Hp → Prop} (S : Sto K T ρ H m) (h : Then K T ρ H (.ok (.ref m.length) (m ++ [.lst ds])) (fun d _ ρ' H' => ∀ v, RelD K ρ' H' d v → Q v H') ex) (np : H p = none)
    (r : RelDs K ρ H ds vs) : Q (.ref p) (upd H p (.lst vs)) := by
  obtain ⟨E, S'⟩ := S.alloc np r
  exact h _ _ E S' _ (.ref (by rw [← S.len]; simp))
theorem RelDs.length {ds : List D} {vs : List V} (h : RelDs K ρ H ds vs) : ds.length = vs.length := by
  match ds, vs, h with
  | _, _, .nil => rfl
  | _, _, .cons _ r => rw [List.length_cons, List.length_cons, r.length]
theorem RelDs.get {ds : List D} {vs : List V} {i : Nat} {d : D} (h : RelDs K ρ H ds vs) (e : ds[i]? = some d) : ∃ v, vs[i]? = some v ∧ RelD K ρ H d v := by
  match ds, vs, i, h with
  | _, _, _, .nil => simp at e
  | _, _, 0, .cons r _ => simp at e; subst e; exact ⟨_, rfl, r⟩
  | _, _, i + 1, .cons _ r => exact RelDs.get (i := i) r (by simpa using e)
theorem RelDs.append {ds es : List D} {vs ws : List V} (h : RelDs K ρ H ds vs) (q : RelDs K ρ H es ws) : RelDs K ρ H (ds ++ es) (vs ++ ws) := by
  match ds, vs, h with
  | _, _, .nil => exact q
  | _, _, .cons a r => exact .cons a (r.append q)
theorem RelDs.take {ds : List D} {vs : List V} (n : Nat) (h : RelDs K ρ H ds vs) : RelDs K ρ H (ds.take n) (vs.take n) := by
  match ds, vs, n, h with
  | _, _, _, .nil => simp; exact .nil
  | _, _, 0, .cons _ _ => exact .nil
  | _, _, n + 1, .cons a r => exact .cons a (r.take n)
theorem RelDs.drop {ds : List D} {vs : List V} (n : Nat) (h : RelDs K ρ H ds vs) : RelDs K ρ H (ds.drop n) (vs.drop n) := by
  match ds, vs, n, h with
  | _, _, _, .nil => simp; exact .nil
  | _, _, 0, .cons a r => exact .cons a r
  | _, _, n + 1, .cons a r => exact r.drop n
theorem RelDs.set {ds : List D} {vs : List V} (i : Nat) {d : D} {v : V} (q : RelD K ρ H d v) (h : RelDs K ρ H ds vs) : RelDs K ρ H (ds.set i d) (vs.set i v) := by
  match ds, vs, i, h with
  | _, _, _, .nil => simp; exact .nil
  | _, _, 0, .cons _ r => exact .cons q r
  | _, _, i + 1, .cons a r => exact .cons a (r.set i q)
theorem RelDs.eraseIdx {ds : List D} {vs : List V} (i : Nat) (h : RelDs K ρ H ds vs) : RelDs K ρ H (ds.eraseIdx i) (vs.eraseIdx i) := by
  match ds, vs, i, h with
  | _, _, _, .nil => simp; exact .nil
  | _, _, 0, .cons _ r => exact r
  | _, _, i + 1, .cons a r => exact .cons a (r.eraseIdx i)
theorem RelDs.dropLast {ds : List D} {vs : List V} (h : RelDs K ρ H ds vs) : RelDs K ρ H ds.dropLast vs.dropLast := by
  rw [List.dropLast_eq_take, List.dropLast_eq_take, h.length]
  exact h.take _
theorem RelDs.reverse {ds : List D} {vs : List V} (h : RelDs K ρ H ds vs) : RelDs K ρ H ds.reverse vs.reverse := by
  match ds, vs, h with
  | _, _, .nil => exact .nil
  | _, _, .cons a r =>
    rw [List.reverse_cons, List.reverse_cons]
    exact r.reverse.append (.cons a .nil)
theorem RelDs.rep {ds : List D} {vs : List V} (h : RelDs K ρ H ds vs) : ∀ k : Nat, RelDs K ρ H (List.replicate k ds).flatten (List.replicate k vs).flatten
  | 0 => .nil
  | k + 1 => by
    rw [List.replicate_succ, List.replicate_succ, List.flatten_cons, List.flatten_cons]
    exact h.append (h.rep k)
theorem RelDs.cutD {ds : List D} {vs : List V} (lo hi : Option Int) (h : RelDs K ρ H ds vs) : RelDs K ρ H (cutD ds lo hi) (cutV vs lo hi) := by
  unfold Dat.cutD cutV
  rw [h.length]
  exact (h.drop _).take _
/-- a list, a tuple of the store, as it is read -/
theorem seq_read {x : V} {d : D} {l : List D} (S : Sto K T ρ H m) (r : RelD K ρ H d x) (h : seqD m d = some l) : ∃ a vs, x = .ref a ∧ (SqL K H a vs ∨ SqT K H a vs) ∧ RelDs K ρ H l vs := by
  cases r with
  | tup h1 h2 => cases h; exact ⟨_, _, rfl, .inr h1, h2⟩
  | fro h1 h2 =>
    cases h
    refine ⟨_, _, rfl, .inl ?_, h2⟩
    rcases h1 with ⟨o, h1⟩ | h1
    · exact .inl (.inr ⟨o, h1⟩)
    · exact .inr h1
  | @ref i a e =>
    simp only [seqD] at h
    split at h
    · rename_i l' hm
      cases h
      obtain ⟨b, e2, vs, h1, h2⟩ := S.cell i _ hm
      rw [e] at e2
      cases e2
      exact ⟨_, vs, rfl, .inl (SqL.of h1), h2⟩
    · cases h
  | _ => cases h
theorem lst_at {i : Nat} {a : Addr} {l : List D} (S : Sto K T ρ H m) (e : ρ[i]? = some a) (h : m[i]? = some (.lst l)) : ∃ vs, H a = some (.lst vs) ∧ RelDs K ρ H l vs := by
  obtain ⟨b, e2, vs, h1, h2⟩ := S.cell i _ h
  rw [e] at e2
  cases e2
  exact ⟨vs, h1, h2⟩
mutual
theorem dp0 {d : D} {v : V} {p : PyData} (r : RelD K ρ H d v) (h : toPy0 d = some p) : Dp K H v p := by
  match d, v, r with
  | _, _, .non => simp only [toPy0, Option.some.injEq] at h; subst h; exact .non
  | _, _, .bl b => simp only [toPy0, Option.some.injEq] at h; subst h; exact .bl b
  | _, _, .int i => simp only [toPy0, Option.some.injEq] at h; subst h; exact .int i
  | _, _, .str x => simp only [toPy0, Option.some.injEq] at h; subst h; exact .str x
  | _, _, .tup h1 h2 =>
    simp only [toPy0, Option.map_eq_some_iff] at h
    obtain ⟨ps, e, rfl⟩ := h
    exact .tup h1 (dp0s h2 e)
  | _, _, .fro h1 h2 =>
    simp only [toPy0, Option.map_eq_some_iff] at h
    obtain ⟨ps, e, rfl⟩ := h
    refine .lst ?_ (dp0s h2 e)
    rcases h1 with ⟨o, h1⟩ | h1
    · exact .inl (.inr ⟨o, h1⟩)
    · exact .inr h1
  | _, _, .ref _ => simp [toPy0] at h
theorem dp0s {d : List D} {v : List V} {p : List PyData} (r : RelDs K ρ H d v) (h : toPy0L d = some p) : DpAll K H v p := by
  match d, v, r with
  | _, _, .nil => simp only [toPy0L, Option.some.injEq] at h; subst h; exact .nil
  | _, _, .cons (d := d) (ds := ds) r1 r2 =>
    simp only [toPy0L] at h
    cases e1 : toPy0 d with
    | none => rw [e1] at h; cases h
    | some x =>
      cases e2 : toPy0L ds with
      | none => rw [e1, e2] at h; cases h
      | some xs =>
        rw [e1, e2] at h
        cases h
        exact .cons (dp0 r1 e1) (dp0s r2 e2)
end
theorem dp_of {d : D} {v : V} {p : PyData} (S : Sto K T ρ H m) (r : RelD K ρ H d v) (h : toPy m d = some p) : Dp K H v p := by
  match d, v, r with
  | .ref i, _, .ref (a := a) e =>
    simp only [toPy] at h
    split at h
    · rename_i l hm
      rw [Option.map_eq_some_iff] at h
      obtain ⟨ps, e1, rfl⟩ := h
      obtain ⟨vs, h1, h2⟩ := lst_at S e hm
      exact .lst (SqL.of h1) (dp0s h2 e1)
    · cases h
  | .non, _, r => exact dp0 r (by simpa [toPy] using h)
  | .bl b, _, r => exact dp0 r (by simpa [toPy] using h)
  | .int b, _, r => exact dp0 r (by simpa [toPy] using h)
  | .str b, _, r => exact dp0 r (by simpa [toPy] using h)
  | .tup b, _, r => exact dp0 r (by simpa [toPy] using h)
  | .fro b, _, r => exact dp0 r (by simpa [toPy] using h)
end
end Dat

/-! Dat5 -/
set_option linter.all false
set_option maxRecDepth 100000
set_option maxHeartbeats 1000000
/-! Dat5: the operations. -/
namespace Dat
open PySem PySem.Spec L2 PyProof.Rows

section
variable {X : Cx} {T : List (Addr × Str)}
/-- a two-place operation on data -/
def rD (K : PySem.W.Frag) (T : List (Addr × Str)) (f : D → D → Mem → Res D) : R2 := fun x y H Q => ∃ ρ m dx dy ex, Sto K T ρ H m ∧ RelD K ρ H dx x ∧ RelD K ρ H dy y ∧
  Then K T ρ H (f dx dy m) (fun d _ ρ' H' => ∀ v, RelD K ρ' H' d v → Q v H') ex
theorem o_add : OpR X (binaryOp .Add) (rD X.K T addD) := by
  intro pins s σ H x y v u Q I rx ry h
  obtain ⟨ρ, m, dx, dy, ex, S, hx, hy, h⟩ := h
  unfold addD at h
  split at h
  · cases hx
    cases hy
    exact L2.op_add pins s σ H _ _ v u Q I rx ry ⟨_, _, rfl, rfl, Then.ret S h (.int _)⟩
  · cases hx
    cases hy
    split at h
    · rename_i hl
      exact L2.op_add_str pins s σ H _ _ v u Q I rx ry ⟨_, _, rfl, rfl, hl, Then.ret S h (.str _)⟩
    · exact (show False from h).elim
  · cases hx with
    | tup h1 r1 =>
    cases hy with
    | tup h2 r2 =>
    split at h
    · rename_i hl
      rw [r1.length, r2.length] at hl
      refine L2.op_catA pins s σ H _ _ v u Q I rx ry ⟨_, _, _, _, rfl, rfl, h1, h2, hl, fun e => ?_, fun e1 e2 => ?_, fun e1 e2 p np => Then.aside S h np fun ρ' H' E e => .tup (.inl (.inl (by rw [e]; exact upd_same))) ((r1.append r2).mono S E)⟩
      · subst e
        cases r1
        exact Then.ret S h (.tup h2 r2)
      · subst e2
        cases r2
        rw [List.append_nil] at h
        exact Then.ret S h (.tup h1 r1)
    · exact (show False from h).elim
  · cases hx with
    | ref e1 =>
    cases hy with
    | ref e2 =>
    split at h
    · rename_i a b ha hb
      split at h
      · rename_i hl
        obtain ⟨vs, h1, r1⟩ := lst_at S e1 ha
        obtain ⟨ws, h2, r2⟩ := lst_at S e2 hb
        rw [r1.length, r2.length] at hl
        exact L2.op_cat pins s σ H _ _ v u Q I rx ry ⟨_, _, _, _, rfl, rfl, h1, h2, hl, fun p np => Then.alloc S h np (r1.append r2)⟩
      · exact (show False from h).elim
    · exact (show False from h).elim
  · exact (show False from h).elim
theorem o_mul : OpR X (binaryOp .Mult) (rD X.K T mulD) := by
  intro pins s σ H x y v u Q I rx ry h
  obtain ⟨ρ, m, dx, dy, ex, S, hx, hy, h⟩ := h
  unfold mulD at h
  split at h
  · cases hx
    cases hy
    split at h
    · rename_i hg
      exact L2.op_mulX pins s σ H _ _ v u Q I rx ry ⟨_, _, rfl, rfl, hg, Then.ret S h (.int _)⟩
    · exact (show False from h).elim
  · cases hx with
    | ref e1 =>
    cases hy
    split at h
    · rename_i a ha
      split at h
      · rename_i hl
        obtain ⟨vs, h1, r1⟩ := lst_at S e1 ha
        rw [r1.length] at hl
        exact L2.op_rep pins s σ H _ _ v u Q I rx ry ⟨_, _, _, rfl, rfl, h1, hl.1, hl.2.1, hl.2.2, fun p np => Then.alloc S h np (r1.rep _)⟩
      · exact (show False from h).elim
    · exact (show False from h).elim
  · exact (show False from h).elim
theorem o_bin {op : Operator} (hop : okBin op = true) : OpR X (binaryOp op) (rD X.K T (binD op)) := by
  cases op with
  | Add => exact o_add
  | Mult => exact o_mul
  | Sub =>
    intro pins s σ H x y v u Q I rx ry h
    obtain ⟨ρ, m, dx, dy, ex, S, hx, hy, h⟩ := h
    simp only [binD] at h
    split at h
    · cases hx
      cases hy
      exact L2.op_sub pins s σ H _ _ v u Q I rx ry ⟨_, _, rfl, rfl, Then.ret S h (.int _)⟩
    · exact (show False from h).elim
  | FloorDiv =>
    intro pins s σ H x y v u Q I rx ry h
    obtain ⟨ρ, m, dx, dy, ex, S, hx, hy, h⟩ := h
    simp only [binD] at h
    split at h
    · cases hx
      cases hy
      split at h
      · rename_i hg
        have o : OpR X (binaryOp .FloorDiv) (rI DivG fun i j => .int (i.fdiv j)) := opI fun _ _ _ _ _ _ _ hc q => floordiv_int hc.1 q (.inl hc.2)
        exact o pins s σ H _ _ v u Q I rx ry ⟨_, _, rfl, rfl, hg, Then.ret S h (.int _)⟩
      · exact (show False from h).elim
    · exact (show False from h).elim
  | Mod =>
    intro pins s σ H x y v u Q I rx ry h
    obtain ⟨ρ, m, dx, dy, ex, S, hx, hy, h⟩ := h
    simp only [binD] at h
    split at h
    · cases hx
      cases hy
      split at h
      · rename_i hg
        exact L2.op_modN pins s σ H _ _ v u Q I rx ry ⟨_, _, rfl, rfl, hg, Then.ret S h (.int _)⟩
      · exact (show False from h).elim
    · exact (show False from h).elim
  | Pow =>
    intro pins s σ H x y v u Q I rx ry h
    obtain ⟨ρ, m, dx, dy, ex, S, hx, hy, h⟩ := h
    simp only [binD] at h
    split at h
    · cases hx
      cases hy
      split at h
      · rename_i hg
        exact L2.op_pow pins s σ H _ _ v u Q I rx ry ⟨_, _, rfl, rfl, hg, Then.ret S h (.int _)⟩
      · exact (show False from h).elim
    · exact (show False from h).elim
  | _ => cases hop
def rD1 (K : PySem.W.Frag) (T : List (Addr × Str)) (f : D → Mem → Res D) : V → Hp → VK → Prop := fun x H Q => ∃ ρ m dx ex, Sto K T ρ H m ∧ RelD K ρ H dx x ∧
  Then K T ρ H (f dx m) (fun d _ ρ' H' => ∀ v, RelD K ρ' H' d v → Q v H') ex
theorem o_neg : UnR X (unaryOp .USub) (rD1 X.K T negD) := by
  intro pins s σ H x v Q I rx h
  obtain ⟨ρ, m, dx, ex, S, hx, h⟩ := h
  unfold negD at h
  split at h
  · cases hx
    exact L2.un_neg pins s σ H _ v Q I rx ⟨_, rfl, Then.ret S h (.int _)⟩
  · exact (show False from h).elim
theorem liftO_then {K : PySem.W.Frag} {ρ : List Addr} {H : Hp} {m : Mem} {α β : Type} {o : Option α} {f : α → β} {ok : β → Mem → List Addr → Hp → Prop} {ex : Str → Option D → Mem → List Addr → Hp → Prop} (h : Then K T ρ H (liftO m (o.map f)) ok ex) :
    ∃ a, o = some a ∧ Then K T ρ H (.ok (f a) m) ok ex := by
  cases o with
  | none => exact (show False from h).elim
  | some a => exact ⟨a, rfl, h⟩
theorem o_eq (hu : X.A.units + 64 < cLine) : OpR X (compareOp .Eq) (rD X.K T (cmpD .Eq)) := by
  intro pins s σ H x y v u Q I rx ry h
  obtain ⟨ρ, m, dx, dy, ex, S, hx, hy, h⟩ := h
  simp only [cmpD] at h
  obtain ⟨b, e, h⟩ := liftO_then h
  unfold eqD at e
  split at e
  · rename_i p q hp hq
    split at e
    · rename_i hs
      cases e
      exact L2.op_eqD hu pins s σ H _ _ v u Q I rx ry ⟨p, q, dp_of S hx hp, dp_of S hy hq, hs.1, hs.2, Then.ret S h (.bl _)⟩
    · cases e
  · cases e
theorem o_ne (hu : X.A.units + 64 < cLine) : OpR X (compareOp .NotEq) (rD X.K T (cmpD .NotEq)) := by
  intro pins s σ H x y v u Q I rx ry h
  obtain ⟨ρ, m, dx, dy, ex, S, hx, hy, h⟩ := h
  simp only [cmpD] at h
  obtain ⟨b, e, h⟩ := liftO_then h
  unfold eqD at e
  split at e
  · rename_i p q hp hq
    split at e
    · rename_i hs
      cases e
      exact L2.op_neD hu pins s σ H _ _ v u Q I rx ry ⟨p, q, dp_of S hx hp, dp_of S hy hq, hs.1, hs.2, Then.ret S h (.bl _)⟩
    · cases e
  · cases e
theorem is_read {K : PySem.W.Frag} {ρ : List Addr} {H : Hp} {dx dy : D} {x y : V} {b : Bool} (hx : RelD K ρ H dx x) (hy : RelD K ρ H dy y) (h : isD dx dy = some b) :
    (y = .non ∧ decide (x = .non) = b) ∨ ∃ p q, x = .bl p ∧ y = .bl q ∧ decide (p = q) = b := by
  unfold isD at h
  split at h
  · cases hx
    cases hy
    cases h
    exact .inl ⟨rfl, by simp⟩
  · rename_i hn
    cases hy
    cases h
    refine .inl ⟨rfl, decide_eq_false fun e => ?_⟩
    subst e
    cases hx
    exact hn rfl
  · cases hx
    cases hy
    cases h
    exact .inr ⟨_, _, rfl, rfl, rfl⟩
  · cases h
theorem o_is : OpR X (compareOp .Is) (rD X.K T (cmpD .Is)) := by
  intro pins s σ H x y v u Q I rx ry h
  obtain ⟨ρ, m, dx, dy, ex, S, hx, hy, h⟩ := h
  simp only [cmpD] at h
  obtain ⟨b, e, h⟩ := liftO_then h
  rcases is_read hx hy e with ⟨rfl, e2⟩ | ⟨p, q, rfl, rfl, e2⟩
  · exact L2.op_isN pins s σ H _ _ v u Q I rx ry ⟨rfl, by rw [e2]; exact Then.ret S h (.bl _)⟩
  · exact L2.op_isBl pins s σ H _ _ v u Q I rx ry ⟨_, _, rfl, rfl, by rw [e2]; exact Then.ret S h (.bl _)⟩
theorem o_isnot : OpR X (compareOp .IsNot) (rD X.K T (cmpD .IsNot)) := by
  intro pins s σ H x y v u Q I rx ry h
  obtain ⟨ρ, m, dx, dy, ex, S, hx, hy, h⟩ := h
  simp only [cmpD] at h
  obtain ⟨b, e, h⟩ := liftO_then h
  rcases is_read hx hy e with ⟨rfl, e2⟩ | ⟨p, q, rfl, rfl, e2⟩
  · exact L2.op_notN pins s σ H _ _ v u Q I rx ry ⟨rfl, by rw [e2]; exact Then.ret S h (.bl _)⟩
  · exact L2.op_notBl pins s σ H _ _ v u Q I rx ry ⟨_, _, rfl, rfl, by rw [e2]; exact Then.ret S h (.bl _)⟩
theorem o_lt : OpR X (compareOp .Lt) (rD X.K T (cmpD .Lt)) := by
  intro pins s σ H x y v u Q I rx ry h
  obtain ⟨ρ, m, dx, dy, ex, S, hx, hy, h⟩ := h
  simp only [cmpD] at h
  split at h
  · cases hx
    cases hy
    exact L2.op_lt pins s σ H _ _ v u Q I rx ry ⟨_, _, rfl, rfl, Then.ret S h (.bl _)⟩
  · exact (show False from h).elim
theorem o_le : OpR X (compareOp .LtE) (rD X.K T (cmpD .LtE)) := by
  intro pins s σ H x y v u Q I rx ry h
  obtain ⟨ρ, m, dx, dy, ex, S, hx, hy, h⟩ := h
  simp only [cmpD] at h
  split at h
  · cases hx
    cases hy
    exact L2.op_le pins s σ H _ _ v u Q I rx ry ⟨_, _, rfl, rfl, Then.ret S h (.bl _)⟩
  · exact (show False from h).elim
theorem o_gt : OpR X (compareOp .Gt) (rD X.K T (cmpD .Gt)) := by
  intro pins s σ H x y v u Q I rx ry h
  obtain ⟨ρ, m, dx, dy, ex, S, hx, hy, h⟩ := h
  simp only [cmpD] at h
  split at h
  · cases hx
    cases hy
    exact L2.op_gt pins s σ H _ _ v u Q I rx ry ⟨_, _, rfl, rfl, Then.ret S h (.bl _)⟩
  · exact (show False from h).elim
theorem o_ge : OpR X (compareOp .GtE) (rD X.K T (cmpD .GtE)) := by
  intro pins s σ H x y v u Q I rx ry h
  obtain ⟨ρ, m, dx, dy, ex, S, hx, hy, h⟩ := h
  simp only [cmpD] at h
  split at h
  · cases hx
    cases hy
    exact L2.op_ge pins s σ H _ _ v u Q I rx ry ⟨_, _, rfl, rfl, Then.ret S h (.bl _)⟩
  · exact (show False from h).elim
end
end Dat

/-! Dat6 -/
set_option linter.all false
set_option maxRecDepth 100000
set_option maxHeartbeats 1000000
/-! Dat6: subscripts, slices, built-in functions and methods. -/
namespace Dat
open PySem PySem.Spec L2 PyProof.Rows

section
variable {X : Cx} {T : List (Addr × Str)}
theorem atI_get {α : Type} {xs : List α} {i : Int} {v : α} (h : atI xs i = some v) : ∃ j, ixN xs.length i = some j ∧ xs[j]? = some v := by
  unfold atI at h
  cases e : ixN xs.length i with
  | none => rw [e] at h; cases h
  | some j => rw [e] at h; exact ⟨j, rfl, h⟩
theorem atI_rel {K : PySem.W.Frag} {ρ : List Addr} {H : Hp} {l : List D} {vs : List V} {i : Int} {d : D} (r : RelDs K ρ H l vs) (h : atI l i = some d) : ∃ v, atI vs i = some v ∧ RelD K ρ H d v := by
  obtain ⟨j, h1, h2⟩ := atI_get h
  obtain ⟨v, h3, h4⟩ := r.get h2
  refine ⟨v, ?_, h4⟩
  unfold atI
  rw [← r.length, h1]
  exact h3
theorem o_idx : IxR X (rD X.K T idxD) := by
  intro value slice pins s σ H x y v u Q I rx ry h hs
  obtain ⟨ρ, m, dx, dy, ex, S, hx, hy, h⟩ := h
  unfold idxD at h
  split at h
  · cases hx
    cases hy
    split at h
    · rename_i hl
      obtain ⟨c, e, h⟩ := liftO_then h
      exact ix_str value slice pins s σ H _ _ v u Q I rx ry ⟨_, _, c, rfl, rfl, hl, e, Then.ret S h (.str _)⟩ hs
    · exact (show False from h).elim
  · cases hy
    split at h
    · rename_i l hl
      obtain ⟨a, vs, rfl, hq, r⟩ := seq_read S hx hl
      cases e : atI l _ with
      | none => rw [e] at h; exact (show False from h).elim
      | some d =>
        rw [e] at h
        obtain ⟨w, e2, r2⟩ := atI_rel r e
        rcases hq with hq | hq
        · exact ix_list value slice pins s σ H _ _ v u Q I rx ry ⟨_, _, _, w, rfl, rfl, hq, e2, Then.ret S h r2⟩ hs
        · exact ix_tup value slice pins s σ H _ _ v u Q I rx ry ⟨_, _, _, w, rfl, rfl, hq, e2, Then.ret S h r2⟩ hs
    · exact (show False from h).elim
  · exact (show False from h).elim
def rS (K : PySem.W.Frag) (T : List (Addr × Str)) : V → Option Int → Option Int → Hp → VK → Prop := fun x lo hi H Q => ∃ ρ m dx ex, Sto K T ρ H m ∧ RelD K ρ H dx x ∧
  Then K T ρ H (slcD dx lo hi m) (fun d _ ρ' H' => ∀ v, RelD K ρ' H' d v → Q v H') ex
theorem o_slc : SlR X (rS X.K T) := by
  intro pins s σ H x v vl vu lo hi sl Q I rx hs pl pu h
  obtain ⟨ρ, m, dx, ex, S, hx, h⟩ := h
  unfold slcD at h
  split at h
  · cases hx with
    | tup hq r =>
    refine sl_tupA pins s σ H _ v vl vu lo hi sl Q I rx hs pl pu ⟨_, _, rfl, hq, fun e => ?_, fun _ p np => Then.aside S h np fun ρ' H' E e => .tup (.inl (.inl (by rw [e]; exact upd_same))) ((r.cutD lo hi).mono S E)⟩
    refine Then.ret S h (.tup hq ?_)
    have e1 : cutD _ lo hi = _ := show cutD (_ : List D) lo hi = _ by
      unfold cutD
      rw [r.length, e.1, e.2, List.drop_zero, Nat.sub_zero, ← r.length, List.take_length]
    rw [e1]
    exact r
  · cases hx with
    | fro hq r =>
    refine sl_list pins s σ H _ v vl vu lo hi sl Q I rx hs pl pu ⟨_, _, rfl, ?_, fun p np => Then.alloc S h np (r.cutD lo hi)⟩
    rcases hq with ⟨o, h1⟩ | h1
    · exact .inl (.inr ⟨o, h1⟩)
    · exact .inr h1
  · cases hx with
    | ref e =>
    split at h
    · rename_i a ha
      obtain ⟨vs, hq, r⟩ := lst_at S e ha
      exact sl_list pins s σ H _ v vl vu lo hi sl Q I rx hs pl pu ⟨_, _, rfl, SqL.of hq, fun p np => Then.alloc S h np (r.cutD lo hi)⟩
    · exact (show False from h).elim
  · exact (show False from h).elim
/-- a call on data -/
def rC (K : PySem.W.Frag) (T : List (Addr × Str)) (f : List D → Mem → Res D) : List V → Hp → VK → Prop := fun xs H Q => ∃ ρ m ds ex, Sto K T ρ H m ∧ RelDs K ρ H ds xs ∧
  Then K T ρ H (f ds m) (fun d _ ρ' H' => ∀ v, RelD K ρ' H' d v → Q v H') ex
theorem rel1 {K : PySem.W.Frag} {ρ : List Addr} {H : Hp} {d : D} {xs : List V} (r : RelDs K ρ H [d] xs) : ∃ v, xs = [v] ∧ RelD K ρ H d v := by
  cases r with
  | cons a b => cases b; exact ⟨_, rfl, a⟩
theorem rel2 {K : PySem.W.Frag} {ρ : List Addr} {H : Hp} {d e : D} {xs : List V} (r : RelDs K ρ H [d, e] xs) : ∃ v w, xs = [v, w] ∧ RelD K ρ H d v ∧ RelD K ρ H e w := by
  cases r with
  | cons a b =>
    obtain ⟨w, e, c⟩ := rel1 b
    exact ⟨_, w, by rw [e], a, c⟩
theorem c_abs : CallR X (.builtin "abs") (rC X.K T (bltD .abs)) := by
  intro pins s σ H xs us Q I rx h
  obtain ⟨ρ, m, ds, ex, S, hx, h⟩ := h
  unfold bltD at h
  split at h <;> first
    | (rename_i hb; cases hb; done)
    | skip
  case h_1 =>
    obtain ⟨v, rfl, r⟩ := rel1 hx
    cases r
    exact call_abs pins s σ H _ us Q I rx ⟨_, rfl, Then.ret S h (.int _)⟩
  all_goals first | exact (show False from h).elim | (rename_i hb _; cases hb)
theorem c_len : CallR X (.builtin "len") (rC X.K T (bltD .len)) := by
  intro pins s σ H x us Q I rx h
  obtain ⟨ρ, m, ds, ex, S, hx, h⟩ := h
  unfold bltD at h
  split at h <;> first
    | (rename_i hb; cases hb; done)
    | skip
  case h_2 =>
    obtain ⟨v, rfl, r⟩ := rel1 hx
    cases r
    split at h
    · rename_i hl
      exact call_len_str pins s σ H _ us Q I rx ⟨_, rfl, hl, Then.ret S h (.int _)⟩
    · exact (show False from h).elim
  case h_3 =>
    obtain ⟨v, rfl, r⟩ := rel1 hx
    split at h
    · rename_i l hl
      obtain ⟨a, vs, rfl, hq, r2⟩ := seq_read S r hl
      exact call_len_seq pins s σ H _ us Q I rx ⟨_, _, rfl, hq, by rw [← r2.length]; exact Then.ret S h (.int _)⟩
    · exact (show False from h).elim
  all_goals first | exact (show False from h).elim | (rename_i hb _; cases hb)
theorem c_int : CallR X (.type "int") (rC X.K T (bltD .int)) := by
  intro pins s σ H x us Q I rx h
  obtain ⟨ρ, m, ds, ex, S, hx, h⟩ := h
  unfold bltD at h
  split at h <;> first
    | (rename_i hb; cases hb; done)
    | skip
  case h_4 =>
    obtain ⟨v, rfl, r⟩ := rel1 hx
    cases r
    exact call_int1 pins s σ H _ us Q I rx (.inl ⟨_, rfl, Then.ret S h (.int _)⟩)
  case h_5 =>
    obtain ⟨v, rfl, r⟩ := rel1 hx
    cases r
    exact call_int1 pins s σ H _ us Q I rx (.inr ⟨_, rfl, Then.ret S h (.int _)⟩)
  all_goals first | exact (show False from h).elim | (rename_i hb _; cases hb)
theorem c_str : CallR X (.type "str") (rC X.K T (bltD .str)) := by
  intro pins s σ H x us Q I rx h
  obtain ⟨ρ, m, ds, ex, S, hx, h⟩ := h
  unfold bltD at h
  split at h <;> first
    | (rename_i hb; cases hb; done)
    | skip
  case h_6 =>
    obtain ⟨v, rfl, r⟩ := rel1 hx
    cases r
    split at h
    · rename_i hl
      exact call_str_int pins s σ H _ us Q I rx ⟨_, rfl, hl, Then.ret S h (.str _)⟩
    · exact (show False from h).elim
  all_goals first | exact (show False from h).elim | (rename_i hb _; cases hb)
theorem c_list : CallR X (.type "list") (rC X.K T (bltD .list)) := by
  intro pins s σ H x us Q I rx h
  obtain ⟨ρ, m, ds, ex, S, hx, h⟩ := h
  unfold bltD at h
  split at h <;> first
    | (rename_i hb; cases hb; done)
    | skip
  case h_7 =>
    obtain ⟨v, rfl, r⟩ := rel1 hx
    split at h
    · rename_i l hl
      obtain ⟨a, vs, rfl, hq, r2⟩ := seq_read S r hl
      exact call_list_of pins s σ H _ us Q I rx ⟨_, _, rfl, hq, fun p np => Then.alloc S h np r2⟩
    · exact (show False from h).elim
  all_goals first | exact (show False from h).elim | (rename_i hb _; cases hb)
theorem c_tuple : CallR X (.type "tuple") (rC X.K T (bltD .tuple)) := by
  intro pins s σ H x us Q I rx h
  obtain ⟨ρ, m, ds, ex, S, hx, h⟩ := h
  unfold bltD at h
  split at h <;> first
    | (rename_i hb; cases hb; done)
    | skip
  case h_8 =>
    obtain ⟨v, rfl, r⟩ := rel1 hx
    cases r with
    | tup hq r2 => exact call_tuple_of pins s σ H _ us Q I rx ⟨_, _, rfl, .inr ⟨hq, Then.ret S h (.tup hq r2)⟩⟩
  case h_9 =>
    obtain ⟨v, rfl, r⟩ := rel1 hx
    split at h
    · rename_i l hl
      obtain ⟨a, vs, rfl, hq, r2⟩ := seq_read S r hl
      rcases hq with hq | hq
      · exact call_tuple_of pins s σ H _ us Q I rx ⟨_, _, rfl, .inl ⟨hq, fun p np => Then.aside S h np fun ρ' H' E e => .tup (.inl (.inl (by rw [e]; exact upd_same))) (r2.mono S E)⟩⟩
      · exact call_tuple_of pins s σ H _ us Q I rx ⟨_, _, rfl, .inr ⟨hq, Then.ret S h (.tup hq r2)⟩⟩
    · exact (show False from h).elim
  all_goals first | exact (show False from h).elim | (rename_i hb _; cases hb)
theorem c_min2 (hc : X.calm = true) : CallR X (.builtin "min") (rC X.K T (bltD .min2)) := by
  intro pins s σ H x us Q I rx h
  obtain ⟨ρ, m, ds, ex, S, hx, h⟩ := h
  unfold bltD at h
  split at h <;> first
    | (rename_i hb; cases hb; done)
    | skip
  case h_10 =>
    obtain ⟨v, w, rfl, r, r'⟩ := rel2 hx
    cases r
    cases r'
    exact call_min2 hc pins s σ H _ us Q I rx ⟨_, _, rfl, Then.ret S h (.int _)⟩
  all_goals first | exact (show False from h).elim | (rename_i hb _; cases hb)
theorem c_max2 (hc : X.calm = true) : CallR X (.builtin "max") (rC X.K T (bltD .max2)) := by
  intro pins s σ H x us Q I rx h
  obtain ⟨ρ, m, ds, ex, S, hx, h⟩ := h
  unfold bltD at h
  split at h <;> first
    | (rename_i hb; cases hb; done)
    | skip
  case h_11 =>
    obtain ⟨v, w, rfl, r, r'⟩ := rel2 hx
    cases r
    cases r'
    exact call_max2 hc pins s σ H _ us Q I rx ⟨_, _, rfl, Then.ret S h (.int _)⟩
  all_goals first | exact (show False from h).elim | (rename_i hb _; cases hb)
/-- a method on data -/
def rM (K : PySem.W.Frag) (T : List (Addr × Str)) (f : D → List D → Mem → Res D) : V → List V → Hp → VK → Prop := fun x xs H Q => ∃ ρ m dx ds ex, Sto K T ρ H m ∧ RelD K ρ H dx x ∧ RelDs K ρ H ds xs ∧
  Then K T ρ H (f dx ds m) (fun d _ ρ' H' => ∀ v, RelD K ρ' H' d v → Q v H') ex
theorem m_append : MtR X "list.append" (rM X.K T (mthD .append)) := by
  intro pins s σ H x xs v us Q I rx rxs h
  obtain ⟨ρ, m, dx, ds, ex, S, hx, hxs, h⟩ := h
  unfold mthD at h
  split at h
  · cases hx with
    | ref e =>
    split at h <;> first
      | (rename_i hb; cases hb; done)
      | (rename_i hb _; cases hb; done)
      | skip
    · rename_i xs' y hm _
      obtain ⟨vs, h1, r1⟩ := lst_at S e hm
      obtain ⟨w, rfl, r2⟩ := rel1 hxs
      split at h
      · rename_i hl
        rw [r1.length] at hl
        refine mt_append pins s σ H _ _ v us Q I rx rxs ⟨_, _, _, rfl, rfl, h1, hl, ?_⟩
        obtain ⟨E, S'⟩ := S.write e (r1.append (.cons r2 .nil))
        exact h _ _ E S' _ .non
      · exact (show False from h).elim
    all_goals first | exact (show False from h).elim | (rename_i hb _; cases hb)
  · exact (show False from h).elim
theorem m_pop : MtR X "list.pop" (rM X.K T (mthD .pop)) := by
  intro pins s σ H x xs v us Q I rx rxs h
  obtain ⟨ρ, m, dx, ds, ex, S, hx, hxs, h⟩ := h
  unfold mthD at h
  split at h
  · cases hx with
    | ref e =>
    split at h <;> first
      | (rename_i hb; cases hb; done)
      | (rename_i hb _; cases hb; done)
      | skip
    · rename_i xs' hm _
      obtain ⟨vs, h1, r1⟩ := lst_at S e hm
      cases hxs
      split at h
      · rename_i y hy
        obtain ⟨w, e2, r2⟩ := r1.get hy
        rw [r1.length] at e2
        refine mt_pop pins s σ H _ _ v us Q I rx rxs ⟨_, _, w, rfl, rfl, h1, e2, ?_⟩
        obtain ⟨E, S'⟩ := S.write e r1.dropLast
        exact h _ _ E S' _ (r2.mono S E)
      · exact (show False from h).elim
    all_goals first | exact (show False from h).elim | (rename_i hb _; cases hb)
  · exact (show False from h).elim
theorem m_popAt : MtR X "list.pop" (rM X.K T (mthD .popAt)) := by
  intro pins s σ H x xs v us Q I rx rxs h
  obtain ⟨ρ, m, dx, ds, ex, S, hx, hxs, h⟩ := h
  unfold mthD at h
  split at h
  · cases hx with
    | ref e =>
    split at h <;> first
      | (rename_i hb; cases hb; done)
      | (rename_i hb _; cases hb; done)
      | skip
    · rename_i xs' i hm _
      obtain ⟨vs, h1, r1⟩ := lst_at S e hm
      obtain ⟨w, rfl, r2⟩ := rel1 hxs
      cases r2
      split at h
      · rename_i hi
        split at h
        · rename_i k hk
          split at h
          · rename_i y hy
            obtain ⟨w, e2, r2⟩ := r1.get hy
            refine mt_popAt pins s σ H _ _ v us Q I rx rxs ⟨_, _, _, k, w, rfl, rfl, h1, hi.1, hi.2, by rw [← r1.length]; exact hk, e2, ?_⟩
            obtain ⟨E, S'⟩ := S.write e (r1.eraseIdx k)
            exact h _ _ E S' _ (r2.mono S E)
          · exact (show False from h).elim
        · exact (show False from h).elim
      · exact (show False from h).elim
    all_goals first | exact (show False from h).elim | (rename_i hb _; cases hb)
  · exact (show False from h).elim
end
end Dat

/-! Dat7 -/
set_option linter.all false
set_option maxRecDepth 100000
set_option maxHeartbeats 1000000
/-! Dat7: expressions, case by case. -/
namespace Dat
open PySem PySem.Spec L2 PyProof.Rows

theorem cE_plain : ∀ {n : Nat} {c : Ctx} {e : Expr} {ir : IE}, cE n c e = some ir → plainE e = true := by
  intro n c e ir h
  cases n with
  | zero => simp [cE] at h
  | succ n => cases e <;> first | rfl | simp [cE] at h
theorem noStar {e : Expr} (h : plainE e = true) (es : List Expr) (env : Env) : starEach (e :: es) env = (false, eval e env) :: starEach es env := by
  cases e <;> first | rfl | cases h
theorem noBehind {e : Expr} (h : plainE e = true) (op : CmpOp) : behindInMarks op e = false := by
  cases e <;> first | rfl | cases h
theorem noFold {e : Expr} (h : plainE e = true) (env : Env) (x : Value) : foldedSetIterable e env x = pure x := by
  cases e <;> first | rfl | cases h
theorem slot_ok {c : Ctx} {x : Str} {i : Nat} (h : c.slot x = some i) : c.N[i]? = some x ∧ L2.Vis c.sc x ∧ okName x = true := by
  unfold Ctx.slot at h
  split at h
  all_goals first
    | (split at h
       · split at h
         · rename_i hk _ _ _ hc
           cases h
           refine ⟨hc.1, ?_, hc.2⟩
           first | exact .inl hk | exact .inr (.inl hk) | exact .inr (.inr hk)
         · cases h
       · cases h)
    | cases h
theorem okName_of {x : Str} (h : okName x = true) : (x == ("__debug__" : Str)) = false ∧ (x == ("__classdict__" : Str)) = false ∧ x ≠ "__name__" := by
  unfold okName at h
  simp only [Bool.and_eq_true, Bool.not_eq_true'] at h
  exact ⟨h.1.1, h.1.2, fun e => by have := h.2; rw [e] at this; simp at this⟩
theorem isGl_of {c : Ctx} {x : Str} (h : c.isGl x = true) : c.sc.names.lookup x = some .globalImplicit ∧ (x == ("__debug__" : Str)) = false ∧ x ≠ "__name__" := by
  unfold Ctx.isGl at h
  rw [Bool.and_eq_true] at h
  exact ⟨of_decide_eq_true h.1, (okName_of h.2).1, (okName_of h.2).2.2⟩

section
variable {X : Cx} {T : List (Addr × Str)} {C : Ctl} {W : WX} {c : Ctx} {Pg : Prog} {lv : Nat}
theorem Good.gl (G : Good c C Pg lv T X W) {x : Str} (h : c.isGl x = true) : Gl X x := by
  show X.env.scope.names.lookup x = _
  rw [G.sc]
  exact (isGl_of h).1
theorem Good.u64 (G : Good c C Pg lv T X W) : X.A.units + 64 < cLine := G.room.units
theorem Good.u65 (G : Good c C Pg lv T X W) : X.A.units + 65 < cLine := by have := G.room.un; omega
theorem o_in (hu : X.A.units + 65 < cLine) : OpR X (compareOp .In) (rD X.K T (cmpD .In)) := by
  intro pins s σ H x y v u Q I rx ry h
  obtain ⟨ρ, m, dx, dy, ex, S, hx, hy, h⟩ := h
  simp only [cmpD] at h
  obtain ⟨b, e, h⟩ := liftO_then h
  unfold inD at e
  split at e
  · split at e
    · rename_i p q hp hq
      split at e
      · rename_i hs
        cases e
        have d1 := dp_of S hx hp
        have d2 : Dp X.K H y (.tuple q) := dp0 hy (by simp [toPy0, hq])
        obtain ⟨as, r1⟩ := Dp.reads I p x v d1 rx
        obtain ⟨bs, r2⟩ := Dp.reads I _ y u d2 ry
        exact SeqAt.in_tuple_reads r2 r1 (SeqAt.canLay_of_shaped hs.2) (SeqAt.canLay_of_shaped hs.1) (room_in_shaped hs.1 hu) ⟨.bl _, H, I, rfl, Then.ret S h (.bl _)⟩
      · cases e
    · cases e
  · split at e
    · rename_i l hm
      split at e
      · rename_i p q hp hq
        split at e
        · rename_i hs
          cases e
          have d1 := dp_of S hx hp
          have d2 : Dp X.K H y (.list q) := dp_of S hy (by simp [toPy, hm, hq])
          exact L2.op_inD hu pins s σ H _ _ v u Q I rx ry ⟨p, q, d1, d2, hs.1, hs.2, Then.ret S h (.bl _)⟩
        · cases e
      · cases e
    · cases e
  · cases e
theorem o_notin (hu : X.A.units + 65 < cLine) : OpR X (compareOp .NotIn) (rD X.K T (cmpD .NotIn)) := by
  intro pins s σ H x y v u Q I rx ry h
  obtain ⟨ρ, m, dx, dy, ex, S, hx, hy, h⟩ := h
  simp only [cmpD] at h
  obtain ⟨b, e, h⟩ := liftO_then h
  unfold inD at e
  split at e
  · split at e
    · rename_i p q hp hq
      split at e
      · rename_i hs
        cases e
        have d1 := dp_of S hx hp
        have d2 : Dp X.K H y (.tuple q) := dp0 hy (by simp [toPy0, hq])
        obtain ⟨as, r1⟩ := Dp.reads I p x v d1 rx
        obtain ⟨bs, r2⟩ := Dp.reads I _ y u d2 ry
        exact SeqAt.notIn_tuple_reads r2 r1 (SeqAt.canLay_of_shaped hs.2) (SeqAt.canLay_of_shaped hs.1) (room_in_shaped hs.1 hu) ⟨.bl _, H, I, rfl, Then.ret S h (.bl _)⟩
      · cases e
    · cases e
  · split at e
    · rename_i l hm
      split at e
      · rename_i p q hp hq
        split at e
        · rename_i hs
          cases e
          have d1 := dp_of S hx hp
          have d2 : Dp X.K H y (.list q) := dp_of S hy (by simp [toPy, hm, hq])
          exact L2.op_notInD hu pins s σ H _ _ v u Q I rx ry ⟨p, q, d1, d2, hs.1, hs.2, Then.ret S h (.bl _)⟩
        · cases e
      · cases e
    · cases e
  · cases e
theorem Good.cmp (G : Good c C Pg lv T X W) (op : CmpOp) : OpR X (compareOp op) (rD X.K T (cmpD op)) := by
  cases op with
  | Eq => exact o_eq G.u64
  | NotEq => exact o_ne G.u64
  | Lt => exact o_lt
  | LtE => exact o_le
  | Gt => exact o_gt
  | GtE => exact o_ge
  | Is => exact o_is
  | IsNot => exact o_isnot
  | In => exact o_in G.u65
  | NotIn => exact o_notin G.u65

/-! ### one lemma a form -/
abbrev OkE (X : Cx) (T : List (Addr × Str)) (C : Ctl) (W : WX) (e : Expr) (ir : IE) : Prop := PE X e (tE X.K T C W ir)
abbrev OkT (X : Cx) (T : List (Addr × Str)) (C : Ctl) (W : WX) (e : Expr) (ir : IE) : Prop := PT X e (tT X.K T C W ir)
theorem tT_tB {K : PySem.W.Frag} {ir : IE} {σ : L2.St} {H : Hp} {Q : Bool → Hp → Prop} (h : tT K T C W ir σ H Q) : tB (tE K T C W ir) σ H Q := by
  obtain ⟨ρ, m, env, S, R, h⟩ := h
  refine ⟨ρ, m, env, S, R, h.imp (fun d m ρ' H' _ _ q v r => ?_) fun _ _ _ _ _ _ _ z => z⟩
  obtain ⟨b, rfl, q⟩ := q
  cases r
  exact ⟨b, rfl, q⟩
theorem ok_val {e : Expr} {ir : IE} (h : OkE X T C W e ir) (he : ∀ whole, PySem.isTrue e X.env whole = (do let v ← whole; standAt e.pos; holding [v] (truthy v))) : OkT X T C W e ir :=
  PT.imp (pt_val h he) fun _ _ _ q => tT_tB q
theorem ok_var {x : Str} {pos : Pos} {i : Nat} (G : Good c C Pg lv T X W) (h : c.slot x = some i) : OkE X T C W (.Name x pos) (.var i) := by
  obtain ⟨h1, h2, h3⟩ := slot_ok h
  refine PE.imp (pe_var (i := i) (by rw [G.hN]; exact h1) (by rw [G.sc]; exact h2) (okName_of h3).1 (okName_of h3).2.1) fun σ H Q q => ?_
  obtain ⟨ρ, m, env, S, R, q⟩ := q
  unfold evalE at q
  split at q
  · rename_i d hd
    obtain ⟨v, e, r⟩ := R.2 i d hd
    exact ⟨v, e, Then.ret S q r⟩
  · exact (show False from q).elim
theorem ok_glo {x : Str} {pos : Pos} {d : D} (G : Good c C Pg lv T X W) (hg : c.isGl x = true) (h : c.glos.lookup x = some d) : OkE X T C W (.Name x pos) (.glo x d) := by
  obtain ⟨u, v, hm, r, rd⟩ := G.glos x d h
  refine PE.imp (pe_glob (G.gl hg) hm r (isGl_of hg).2.1) fun σ H Q q => ?_
  obtain ⟨ρ, m, env, S, R, q⟩ := q
  unfold evalE at q
  exact Then.ret S q (rd ρ H)
theorem ok_con {k : Const} {j : Nat} {pos : Pos} {d : D} (h : cConst k = some d) : OkE X T C W (.Constant k j pos) (.con d) := by
  cases k with
  | none => cases h; exact PE.imp pe_non fun σ H Q ⟨ρ, m, env, S, R, q⟩ => by unfold evalE at q; exact Then.ret S q .non
  | bool b => cases h; exact PE.imp pe_bl fun σ H Q ⟨ρ, m, env, S, R, q⟩ => by unfold evalE at q; exact Then.ret S q (.bl _)
  | int i => cases h; exact PE.imp pe_int fun σ H Q ⟨ρ, m, env, S, R, q⟩ => by unfold evalE at q; exact Then.ret S q (.int _)
  | str x => cases h; exact PE.imp pe_str fun σ H Q ⟨ρ, m, env, S, R, q⟩ => by unfold evalE at q; exact Then.ret S q (.str _)
  | _ => cases h
theorem ok_bin {a b : Expr} {a' b' : IE} {op : Operator} {pos : Pos} (ho : okBin op = true) (ha : OkE X T C W a a') (hb : OkE X T C W b b') : OkE X T C W (.BinOp a op b pos) (.bin op a' b') := by
  refine PE.imp (pe_op (o_bin (T := T) ho) ha hb) fun σ H Q ⟨ρ, m, env, S, R, q⟩ => ?_
  unfold evalE at q
  refine seqE S R q fun x H1 ρ1 m1 d1 E1 S1 R1 r1 q1 => ?_
  refine seqE S1 R1 q1 fun y H2 ρ2 m2 d2 E2 S2 R2 r2 q2 => ?_
  exact ⟨ρ2, m2, d1, d2, _, S2, r1.mono S1 E2, r2, q2⟩
theorem ok_neg {a : Expr} {a' : IE} {pos : Pos} (ha : OkE X T C W a a') : OkE X T C W (.UnaryOp .USub a pos) (.neg a') := by
  refine PE.imp (pe_un (o_neg (T := T)) ha) fun σ H Q ⟨ρ, m, env, S, R, q⟩ => ?_
  unfold evalE at q
  exact seqE S R q fun x H1 ρ1 m1 d1 E1 S1 R1 r1 q1 => ⟨ρ1, m1, d1, _, S1, r1, q1⟩
theorem asB_then {K : PySem.W.Frag} {ρ : List Addr} {H : Hp} {β : Type} {d : D} {v : V} {f : Bool → Res β} {ok : β → Mem → List Addr → Hp → Prop} {ex : Str → Option D → Mem → List Addr → Hp → Prop} (h : Then K T ρ H (asB d f) ok ex) (r : RelD K ρ H d v) :
    ∃ b, v = .bl b ∧ Then K T ρ H (f b) ok ex := by
  cases d with
  | bl b => cases r; exact ⟨b, rfl, h⟩
  | _ => exact (show False from h).elim
theorem ok_not {a : Expr} {a' : IE} {pos : Pos} (ha : OkE X T C W a a') : OkE X T C W (.UnaryOp .Not a pos) (.notE a') := by
  refine PE.imp (pe_not ha) fun σ H Q ⟨ρ, m, env, S, R, q⟩ => ?_
  unfold evalE at q
  refine seqE S R q fun x H1 ρ1 m1 d1 E1 S1 R1 r1 q1 => ?_
  obtain ⟨b, rfl, q2⟩ := asB_then q1 r1
  exact ⟨b, rfl, Then.ret S1 q2 (.bl _)⟩
theorem ok_notT {a : Expr} {a' : IE} {pos : Pos} (ha : OkT X T C W a a') : OkT X T C W (.UnaryOp .Not a pos) (.notE a') := by
  refine PT.imp (pt_not ha) fun σ H Q ⟨ρ, m, env, S, R, q⟩ => ?_
  unfold evalE at q
  refine seqT (k := fun x m1 => asB x fun b => Res.ok (D.bl (!b)) m1) S R q fun b H1 ρ1 m1 E1 S1 R1 q1 => ?_
  · obtain ⟨b', e, q⟩ := q1 ρ1 H1 (Ext.refl _ _) S1
    cases e
    exact q
theorem ok_cmp {a b : Expr} {a' b' : IE} {op : CmpOp} {pos : Pos} (G : Good c C Pg lv T X W) (pb : plainE b = true) (ha : OkE X T C W a a') (hb : OkE X T C W b b') : OkE X T C W (.Compare a [op] [b] pos) (.cmp op a' b') := by
  refine PE.imp (pe_cmpR (G.cmp op) ha hb (noBehind pb op)) fun σ H Q ⟨ρ, m, env, S, R, q⟩ => ?_
  unfold evalE at q
  refine seqE S R q fun x H1 ρ1 m1 d1 E1 S1 R1 r1 q1 => ?_
  refine seqE S1 R1 q1 fun y H2 ρ2 m2 d2 E2 S2 R2 r2 q2 => ?_
  exact ⟨ρ2, m2, d1, d2, _, S2, r1.mono S1 E2, r2, q2⟩
theorem ok_cmpT {a b : Expr} {a' b' : IE} {op : CmpOp} {pos : Pos} (G : Good c C Pg lv T X W) (pb : plainE b = true) (ha : OkE X T C W a a') (hb : OkE X T C W b b') : OkT X T C W (.Compare a [op] [b] pos) (.cmp op a' b') := by
  refine PT.imp (pt_cmpR (G.cmp op) ha hb (noBehind pb op)) fun σ H Q ⟨ρ, m, env, S, R, q⟩ => ?_
  unfold evalE at q
  refine seqE S R q fun x H1 ρ1 m1 d1 E1 S1 R1 r1 q1 => ?_
  refine seqE S1 R1 q1 fun y H2 ρ2 m2 d2 E2 S2 R2 r2 q2 => ?_
  refine ⟨ρ2, m2, d1, d2, _, S2, r1.mono S1 E2, r2, q2.imp (fun d m' ρ' H' _ _ z v r => ?_) fun _ _ _ _ _ _ _ z => z⟩
  obtain ⟨b, rfl, z⟩ := z
  cases r
  exact ⟨b, rfl, z⟩
theorem noLast {b d : Expr} (h : plainE d = true) (o1 o2 : CmpOp) : lastMarks [o1, o2] [b, d] = false := noBehind h o2
theorem ok_cmp2 {a b d : Expr} {a' b' d' : IE} {o1 o2 : CmpOp} {pos : Pos} (G : Good c C Pg lv T X W) (pd : plainE d = true) (ha : OkE X T C W a a') (hb : OkE X T C W b b') (hd : OkE X T C W d d') : OkE X T C W (.Compare a [o1, o2] [b, d] pos) (.cmp2 o1 o2 a' b' d') := by
  refine PE.imp (pe_chain (G.cmp o1) (G.cmp o2) ha hb hd (noLast pd o1 o2)) fun σ H Q ⟨ρ, m, env, S, R, q⟩ => ?_
  unfold evalE at q
  refine seqE S R q fun x H1 ρ1 m1 d1 E1 S1 R1 r1 q1 => ?_
  refine seqE S1 R1 q1 fun y H2 ρ2 m2 d2 E2 S2 R2 r2 q2 => ?_
  refine ⟨ρ2, m2, d1, d2, _, S2, r1.mono S1 E2, r2, q2.bind.imp (fun r m3 ρ3 H3 E3 S3 q3 z rz => ?_) fun _ _ _ _ _ _ _ z => z⟩
  obtain ⟨t, rfl, q4⟩ := asB_then q3 rz
  refine ⟨t, rfl, ?_⟩
  cases t with
  | false => exact Then.ret S3 q4 (.bl _)
  | true => exact seqE S3 (R2.mono S2 E3) q4 fun z H4 ρ4 m4 d4 E4 S4 R4 r4 q5 => ⟨ρ4, m4, d2, d4, _, S4, (r2.mono S2 E3).mono S3 E4, r4, q5⟩
theorem ok_cmp2T {a b d : Expr} {a' b' d' : IE} {o1 o2 : CmpOp} {pos : Pos} (G : Good c C Pg lv T X W) (pd : plainE d = true) (ha : OkE X T C W a a') (hb : OkE X T C W b b') (hd : OkE X T C W d d') : OkT X T C W (.Compare a [o1, o2] [b, d] pos) (.cmp2 o1 o2 a' b' d') := by
  refine PT.imp (pt_chain (G.cmp o1) (G.cmp o2) ha hb hd (noLast pd o1 o2)) fun σ H Q ⟨ρ, m, env, S, R, q⟩ => ?_
  unfold evalE at q
  refine seqE S R q fun x H1 ρ1 m1 d1 E1 S1 R1 r1 q1 => ?_
  refine seqE S1 R1 q1 fun y H2 ρ2 m2 d2 E2 S2 R2 r2 q2 => ?_
  refine ⟨ρ2, m2, d1, d2, _, S2, r1.mono S1 E2, r2, q2.bind.imp (fun r m3 ρ3 H3 E3 S3 q3 z rz => ?_) fun _ _ _ _ _ _ _ z => z⟩
  obtain ⟨t, rfl, q4⟩ := asB_then q3 rz
  refine ⟨t, rfl, ?_⟩
  cases t with
  | false =>
    obtain ⟨b, e, z⟩ := q4 ρ3 H3 (Ext.refl _ _) S3
    cases e
    exact ⟨false, rfl, z⟩
  | true =>
    refine seqE S3 (R2.mono S2 E3) q4 fun z H4 ρ4 m4 d4 E4 S4 R4 r4 q5 => ⟨ρ4, m4, d2, d4, _, S4, (r2.mono S2 E3).mono S3 E4, r4, q5.imp (fun d m' ρ' H' _ _ z v r => ?_) fun _ _ _ _ _ _ _ z => z⟩
    obtain ⟨b, rfl, z⟩ := z
    cases r
    exact ⟨b, rfl, z⟩
theorem ok_and {a b : Expr} {rest : List Expr} {a' b' : IE} {pos : Pos} (ha : OkE X T C W a a') (hb : OkE X T C W (.BoolOp .And (b :: rest) pos) b') : OkE X T C W (.BoolOp .And (a :: b :: rest) pos) (.andE a' b') := by
  refine PE.imp (pe_and ha hb) fun σ H Q ⟨ρ, m, env, S, R, q⟩ => ?_
  unfold evalE at q
  refine seqE S R q fun x H1 ρ1 m1 d1 E1 S1 R1 r1 q1 => ?_
  obtain ⟨t, rfl, q2⟩ := asB_then q1 r1
  refine ⟨t, rfl, ?_⟩
  cases t with
  | false => exact Then.ret S1 q2 (.bl _)
  | true => exact ⟨ρ1, m1, env, S1, R1, q2⟩
theorem ok_or {a b : Expr} {rest : List Expr} {a' b' : IE} {pos : Pos} (ha : OkE X T C W a a') (hb : OkE X T C W (.BoolOp .Or (b :: rest) pos) b') : OkE X T C W (.BoolOp .Or (a :: b :: rest) pos) (.orE a' b') := by
  refine PE.imp (pe_or ha hb) fun σ H Q ⟨ρ, m, env, S, R, q⟩ => ?_
  unfold evalE at q
  refine seqE S R q fun x H1 ρ1 m1 d1 E1 S1 R1 r1 q1 => ?_
  obtain ⟨t, rfl, q2⟩ := asB_then q1 r1
  refine ⟨t, rfl, ?_⟩
  cases t with
  | true => exact Then.ret S1 q2 (.bl _)
  | false => exact ⟨ρ1, m1, env, S1, R1, q2⟩
theorem tT_done {K : PySem.W.Frag} {ρ : List Addr} {H : Hp} {m : Mem} {b : Bool} {Q : Bool → Hp → Prop} {ex : Str → Option D → Mem → List Addr → Hp → Prop} (S : Sto K T ρ H m) (h : Then K T ρ H (Res.ok (D.bl b) m) (fun d _ ρ' H' => ∃ b, d = D.bl b ∧ Q b H') ex) : Q b H := by
  obtain ⟨b', e, z⟩ := h ρ H (Ext.refl _ _) S
  cases e
  exact z
theorem ok_andT {a b : Expr} {rest : List Expr} {a' b' : IE} {pos : Pos} (ha : OkT X T C W a a') (hb : PW X (.BoolOp .And (b :: rest) pos) (tT X.K T C W b')) : PW X (.BoolOp .And (a :: b :: rest) pos) (tT X.K T C W (.andE a' b')) := by
  refine PW.imp (pw_and ha hb) fun σ H Q ⟨ρ, m, env, S, R, q⟩ => ?_
  unfold evalE at q
  refine seqT (k := fun x m1 => asB x fun t => if t = true then evalE b' C env m1 else Res.ok (D.bl false) m1) S R q fun t H1 ρ1 m1 E1 S1 R1 q1 => ?_
  cases t with
  | false => exact tT_done S1 q1
  | true => exact ⟨ρ1, m1, env, S1, R1, q1⟩
theorem ok_orT {a b : Expr} {rest : List Expr} {a' b' : IE} {pos : Pos} (ha : OkT X T C W a a') (hb : PW X (.BoolOp .Or (b :: rest) pos) (tT X.K T C W b')) : PW X (.BoolOp .Or (a :: b :: rest) pos) (tT X.K T C W (.orE a' b')) := by
  refine PW.imp (pw_or ha hb) fun σ H Q ⟨ρ, m, env, S, R, q⟩ => ?_
  unfold evalE at q
  refine seqT (k := fun x m1 => asB x fun t => if t = true then Res.ok (D.bl true) m1 else evalE b' C env m1) S R q fun t H1 ρ1 m1 E1 S1 R1 q1 => ?_
  cases t with
  | true => exact tT_done S1 q1
  | false => exact ⟨ρ1, m1, env, S1, R1, q1⟩
theorem ok_if {t a b : Expr} {t' a' b' : IE} {pos : Pos} (ht : OkT X T C W t t') (ha : OkE X T C W a a') (hb : OkE X T C W b b') : OkE X T C W (.IfExp t a b pos) (.ifE t' a' b') := by
  refine PE.imp (pe_ifExp ht ha hb) fun σ H Q ⟨ρ, m, env, S, R, q⟩ => ?_
  unfold evalE at q
  refine seqT (k := fun x m1 => asB x fun t => if t = true then evalE a' C env m1 else evalE b' C env m1) S R q fun t H1 ρ1 m1 E1 S1 R1 q1 => ?_
  cases t with
  | true => exact ⟨ρ1, m1, env, S1, R1, q1⟩
  | false => exact ⟨ρ1, m1, env, S1, R1, q1⟩
theorem pt_if {t a b : Expr} {pos : Pos} {tt ta tb : TT} (ht : PT X t tt) (ha : PT X a ta) (hb : PT X b tb) : PT X (.IfExp t a b pos) (fun σ H Q => tt σ H fun c H1 => if c = true then ta σ H1 Q else tb σ H1 Q) := by
  refine ⟨fun pins s σ H Q I h => ?_⟩
  have e : PySem.isTrue (.IfExp t a b pos) X.env (eval (.IfExp t a b pos) X.env) = (do if ← PySem.isTrue t X.env (eval t X.env) then PySem.isTrue a X.env (eval a X.env) else PySem.isTrue b X.env (eval b X.env)) := by
    rw [PySem.isTrue]
  rw [e]
  refine wpAny_bind (thn (ht.run pins s σ H _ I h) fun d s1 ⟨H1, I1, q1⟩ => ?_)
  cases d with
  | true => exact ha.run pins s1 σ H1 Q I1 q1
  | false => exact hb.run pins s1 σ H1 Q I1 q1
theorem ok_ifT {t a b : Expr} {t' a' b' : IE} {pos : Pos} (ht : OkT X T C W t t') (ha : OkT X T C W a a') (hb : OkT X T C W b b') : OkT X T C W (.IfExp t a b pos) (.ifE t' a' b') := by
  refine PT.imp (pt_if ht ha hb) fun σ H Q ⟨ρ, m, env, S, R, q⟩ => ?_
  unfold evalE at q
  refine seqT (k := fun x m1 => asB x fun t => if t = true then evalE a' C env m1 else evalE b' C env m1) S R q fun t H1 ρ1 m1 E1 S1 R1 q1 => ?_
  cases t with
  | true => exact ⟨ρ1, m1, env, S1, R1, q1⟩
  | false => exact ⟨ρ1, m1, env, S1, R1, q1⟩
theorem ok_idx {a b : Expr} {a' b' : IE} {pos : Pos} (nb : noSlice b = true) (ha : OkE X T C W a a') (hb : OkE X T C W b b') : OkE X T C W (.Subscript a b pos) (.idx a' b') := by
  refine PE.imp (pe_ix (o_idx (T := T)) ha hb (fun o i => by cases b <;> first | rfl | cases nb)) fun σ H Q ⟨ρ, m, env, S, R, q⟩ => ?_
  unfold evalE at q
  refine seqE S R q fun x H1 ρ1 m1 d1 E1 S1 R1 r1 q1 => ?_
  refine seqE S1 R1 q1 fun y H2 ρ2 m2 d2 E2 S2 R2 r2 q2 => ?_
  exact ⟨ρ2, m2, d1, d2, _, S2, r1.mono S1 E2, r2, q2⟩
/-- a part of a slice -/
def tO (K : PySem.W.Frag) (T : List (Addr × Str)) (C : Ctl) (W : WX) (b : Bool) (e : IE) : TO := fun σ H Q => ∃ ρ m env, Sto K T ρ H m ∧ REnv K ρ H env σ ∧ Then K T ρ H (evalE e C env m) (fun d _ ρ' H' => ∃ o, partD b d = some o ∧ Q o H') (exW K W σ)
theorem PO.imp {e : Option Expr} {t t' : TO} (h : PO X e t) (i : ∀ σ H Q, t' σ H Q → t σ H Q) : PO X e t' := ⟨fun pins s σ H Q I q => h.run pins s σ H Q I (i σ H Q q)⟩
theorem ok_nop : PO X none (tO X.K T C W false .nop) := by
  refine PO.imp po_none fun σ H Q ⟨ρ, m, env, S, R, q⟩ => ?_
  unfold evalE at q
  obtain ⟨o, e, q⟩ := q ρ H (Ext.refl _ _) S
  cases e
  exact q
theorem ok_part {e : Expr} {e' : IE} (h : OkE X T C W e e') : PO X (some e) (tO X.K T C W true e') := by
  refine PO.imp (po_some h) fun σ H Q ⟨ρ, m, env, S, R, q⟩ => ?_
  refine ⟨ρ, m, env, S, R, q.imp (fun d m' ρ' H' _ _ z v r => ?_) fun _ _ _ _ _ _ _ z => z⟩
  obtain ⟨o, e, z⟩ := z
  cases d with
  | int i => cases e; cases r; exact ⟨i, rfl, z⟩
  | _ => cases e
theorem ok_slc {a : Expr} {lo hi : Option Expr} {a' lo' hi' : IE} {bl bh : Bool} {p pos : Pos} (ha : OkE X T C W a a') (hl : PO X lo (tO X.K T C W bl lo')) (hh : PO X hi (tO X.K T C W bh hi')) : OkE X T C W (.Subscript a (.Slice lo hi none p) pos) (.slc bl bh a' lo' hi') := by
  refine PE.imp (pe_slice (o_slc (T := T)) ha hl hh) fun σ H Q ⟨ρ, m, env, S, R, q⟩ => ?_
  unfold evalE at q
  refine seqE S R q fun x H1 ρ1 m1 d1 E1 S1 R1 r1 q1 => ?_
  refine ⟨ρ1, m1, env, S1, R1, q1.bind.imp (fun dl m2 ρ2 H2 E2 S2 q2 => ?_) fun _ _ _ _ _ _ _ z => z⟩
  split at q2
  · rename_i o e1
    refine ⟨o, e1, ρ2, m2, env, S2, R1.mono S1 E2, q2.bind.imp (fun dh m3 ρ3 H3 E3 S3 q3 => ?_) fun _ _ _ _ _ _ _ z => z⟩
    split at q3
    · rename_i u e2
      exact ⟨u, e2, ρ3, m3, d1, _, S3, (r1.mono S1 E2).mono S2 E3, q3⟩
    · exact (show False from q3).elim
  · exact (show False from q2).elim
end
end Dat

/-! Dat8 -/
set_option linter.all false
set_option maxRecDepth 100000
set_option maxHeartbeats 1000000
/-! Dat8: displays, calls. -/
namespace Dat
open PySem PySem.Spec L2 PyProof.Rows

section
variable {X : Cx} {T : List (Addr × Str)} {C : Ctl} {W : WX} {c : Ctx} {Pg : Prog} {lv : Nat}
abbrev OkA (X : Cx) (T : List (Addr × Str)) (C : Ctl) (W : WX) (e : List Expr) (ir : List IE) : Prop := PA X e (tA X.K T C W ir)
theorem ok_nil : OkA X T C W [] [] := by
  refine PA.imp pa_nil fun σ H Q ⟨ρ, m, env, S, R, q⟩ => ?_
  unfold evalEs at q
  exact q ρ H (Ext.refl _ _) S [] .nil
theorem ok_cons {e : Expr} {es : List Expr} {e' : IE} {es' : List IE} (p : plainE e = true) (h : OkE X T C W e e') (hs : OkA X T C W es es') : OkA X T C W (e :: es) (e' :: es') := by
  refine PA.imp (pa_cons h hs (noStar p _ _)) fun σ H Q ⟨ρ, m, env, S, R, q⟩ => ?_
  unfold evalEs at q
  refine seqE S R q fun x H1 ρ1 m1 d1 E1 S1 R1 r1 q1 => ?_
  refine seqA S1 R1 q1 fun xs H2 ρ2 m2 ds E2 S2 R2 r2 q2 => ?_
  exact q2 ρ2 H2 (Ext.refl _ _) S2 _ (.cons (r1.mono S1 E2) r2)
theorem ok_tup {es : List Expr} {es' : List IE} {k : Nat} {pos : Pos} (h : OkA X T C W es es') : OkE X T C W (.Tuple es k pos) (.tup es') := by
  refine PE.imp (pe_tup h) fun σ H Q ⟨ρ, m, env, S, R, q⟩ => ?_
  unfold evalE at q
  refine seqA S R q fun xs H2 ρ2 m2 ds E2 S2 R2 r2 q2 => ?_
  split at q2
  · rename_i hl
    rw [r2.length] at hl
    exact ⟨hl, fun p np => Then.aside S2 q2 np fun ρ' H' E e => .tup (.inl (.inl (by rw [e]; exact upd_same))) (r2.mono S2 E)⟩
  · exact (show False from q2).elim
theorem ok_lst {es : List Expr} {es' : List IE} {pos : Pos} (h : OkA X T C W es es') : OkE X T C W (.List es pos) (.lst es') := by
  refine PE.imp (pe_lst h) fun σ H Q ⟨ρ, m, env, S, R, q⟩ => ?_
  unfold evalE at q
  refine seqA S R q fun xs H2 ρ2 m2 ds E2 S2 R2 r2 q2 => ?_
  split at q2
  · rename_i hl
    rw [r2.length] at hl
    exact ⟨hl, fun p np => Then.alloc S2 q2 np r2⟩
  · exact (show False from q2).elim
/-- no star among them -/
def plainEs : List Expr → Bool
  | [] => true
  | e :: es => plainE e && plainEs es
theorem noStars {pos : Pos} {env : Env} : ∀ {es : List Expr}, plainEs es = true → (backTo pos (starEach es env)).any (·.1) = false
  | [], _ => rfl
  | e :: es, h => by
    have h2 : plainE e = true ∧ plainEs es = true := by simpa [plainEs] using h
    rw [noStar h2.1]
    have ih := noStars (pos := pos) (env := env) h2.2
    simp only [backTo, List.map_cons, List.any_cons, Bool.false_or] at ih ⊢
    exact ih
theorem pa_two {e : Expr} {es : List Expr} (h : plainEs (e :: es) = true) : plainE e = true ∧ plainEs es = true := by simpa [plainEs] using h
theorem sp_call {i : Nat} {K : PySem.W.Frag} {xs : List V} {H2 : Hp} {Q : VK} {E : XK} {ρ2 : List Addr} {m2 : Mem} {ds : List D} {ex : Str → Option D → Mem → List Addr → Hp → Prop}
    (S2 : Sto K T ρ2 H2 m2) (r2 : RelDs K ρ2 H2 ds xs) (q2 : Then K T ρ2 H2 (runF Pg lv i ds m2) (fun d _ ρ' H' => ∀ v, RelD K ρ' H' d v → Q v H') ex) (he : ∀ cc p m ρ' H', ex cc p m ρ' H' → ∀ dd, RelP K ρ' H' p dd → E (.ref (He.ga K cc)) dd H') : spF K T Pg lv i xs H2 Q E :=
  ⟨ρ2, m2, ds, S2, r2, q2.imp (fun _ _ _ _ _ _ z => z) fun cc p m ρ' H' _ _ z => he cc p m ρ' H' z⟩
theorem ok_call {f : Str} {e : Expr} {es : List Expr} {l : List IE} {i : Nat} {q : Str × List Str} {p pos : Pos} (G : Good c C Pg lv T X W) (hg : c.isGl f = true) (hi : c.fns[i]? = some q) (hq : q.1 = f) (pl : plainEs (e :: es) = true)
    (h : OkA X T C W (e :: es) l) : OkE X T C W (.Call (.Name f p) (e :: es) [] pos) (.call i l) := by
  obtain ⟨fa, fd, hm, hk, hb, F⟩ := (G.fns _ (Nat.le_refl _)).fn i q hi
  rw [hq] at hm
  refine PE.imp (pe_callS (E := WE W) F G.room (G.gl hg) hm hk hb (passAt G.tk) h (isGl_of hg).2.1 (noStar (pa_two pl).1 _ _) (noStars (pa_two pl).2)) fun σ H Q ⟨ρ, m, env, S, R, q⟩ => ?_
  unfold evalE at q
  refine seqA S R q fun xs H2 ρ2 m2 ds E2 S2 R2 r2 q2 => ?_
  rw [G.call] at q2
  show spF X.K T Pg lv i (xs) H2 Q (WE W σ)
  exact sp_call S2 r2 q2 fun _ _ _ _ _ z => z
/-- f() -/
theorem ok_call0 {f : Str} {i : Nat} {q : Str × List Str} {p pos : Pos} (G : Good c C Pg lv T X W) (hg : c.isGl f = true) (hi : c.fns[i]? = some q) (hq : q.1 = f) : OkE X T C W (.Call (.Name f p) [] [] pos) (.call i []) := by
  obtain ⟨fa, fd, hm, hk, hb, F⟩ := (G.fns _ (Nat.le_refl _)).fn i q hi
  rw [hq] at hm
  refine ⟨fun pins s σ H Q I ⟨ρ, m, env, S, R, z⟩ => ?_⟩
  unfold evalE at z
  have z2 : Then X.K T ρ H (runF Pg lv i [] m) (fun d _ ρ' H' => ∀ v, RelD X.K ρ' H' d v → Q v H') (exW X.K W σ) := by
    unfold evalEs at z
    rw [← G.call]
    exact z
  refine wpAny_Call_Name_kw (ld_glob I (G.gl hg) hm ?_ (isGl_of hg).2.1)
  exact PySem.W.callWith_K0 I.kIn hk (run_fnS (us := []) (E := WE W) F G.room hb (passAt G.tk σ) I .nil (sp_call S .nil z2 fun _ _ _ _ _ z => z))
theorem bltOf_cases {x : Str} {n : Nat} {b : Blt} (h : bltOf x n = some b) : (b = .abs ∧ x = "abs") ∨ (b = .len ∧ x = "len") ∨ (b = .int ∧ x = "int") ∨ (b = .str ∧ x = "str") ∨ (b = .list ∧ x = "list") ∨ (b = .tuple ∧ x = "tuple") ∨ (b = .min2 ∧ x = "min") ∨ (b = .max2 ∧ x = "max") := by
  unfold bltOf at h
  repeat' split at h
  all_goals first | (cases h; done) | skip
  all_goals
    rename_i hx
    obtain ⟨rfl, _⟩ := hx
    cases h
    simp
theorem ok_blt {f : Str} {e : Expr} {es : List Expr} {l : List IE} {b : Blt} {n : Nat} {p pos : Pos} (G : Good c C Pg lv T X W) (hg : c.isGl f = true) (hb : bltOf f n = some b) (pl : plainEs (e :: es) = true)
    (h : OkA X T C W (e :: es) l) : OkE X T C W (.Call (.Name f p) (e :: es) [] pos) (.blt b l) := by
  have g := G.gl hg
  obtain ⟨_, h2, h3⟩ := isGl_of hg
  have s1 := noStar (env := X.env) (es := es) (pa_two pl).1
  have s2 := noStars (pos := pos) (env := X.env) (pa_two pl).2
  have fin : ∀ {b : Blt} {σ : L2.St} {H : Hp} {Q : VK}, tE X.K T C W (.blt b l) σ H Q → tCB (rC X.K T (bltD b)) (tA X.K T C W l) σ H Q := fun {b σ H Q} ⟨ρ, m, env, S, R, q⟩ => by
    unfold evalE at q
    exact seqA S R q fun xs H2 ρ2 m2 ds E2 S2 R2 r2 q2 => ⟨ρ2, m2, ds, _, S2, r2, q2⟩
  rcases bltOf_cases hb with ⟨rfl, rfl⟩ | ⟨rfl, rfl⟩ | ⟨rfl, rfl⟩ | ⟨rfl, rfl⟩ | ⟨rfl, rfl⟩ | ⟨rfl, rfl⟩ | ⟨rfl, rfl⟩ | ⟨rfl, rfl⟩
  · exact PE.imp (pe_callB (c_abs (T := T)) g (G.blt _ (by decide +kernel)) (by decide +kernel) h h3 h2 s1 s2) fun _ _ _ q => fin q
  · exact PE.imp (pe_callB (c_len (T := T)) g (G.blt _ (by decide +kernel)) (by decide +kernel) h h3 h2 s1 s2) fun _ _ _ q => fin q
  · exact PE.imp (pe_callTy (c_int (T := T)) g (G.blt _ (by decide +kernel)) (by decide +kernel) h h3 h2 s1 s2) fun _ _ _ q => fin q
  · exact PE.imp (pe_callTy (c_str (T := T)) g (G.blt _ (by decide +kernel)) (by decide +kernel) h h3 h2 s1 s2) fun _ _ _ q => fin q
  · exact PE.imp (pe_callTy (c_list (T := T)) g (G.blt _ (by decide +kernel)) (by decide +kernel) h h3 h2 s1 s2) fun _ _ _ q => fin q
  · exact PE.imp (pe_callTy (c_tuple (T := T)) g (G.blt _ (by decide +kernel)) (by decide +kernel) h h3 h2 s1 s2) fun _ _ _ q => fin q
  · exact PE.imp (pe_callB (c_min2 (T := T) G.calm) g (G.blt _ (by decide +kernel)) (by decide +kernel) h h3 h2 s1 s2) fun _ _ _ q => fin q
  · exact PE.imp (pe_callB (c_max2 (T := T) G.calm) g (G.blt _ (by decide +kernel)) (by decide +kernel) h h3 h2 s1 s2) fun _ _ _ q => fin q
theorem isL_ty {K : PySem.W.Frag} {ρ : List Addr} {H : Hp} {m : Mem} {d : D} {x : V} (S : Sto K T ρ H m) (r : RelD K ρ H d x) (h : isL m d = true) : tyV K "list" x H := by
  cases r with
  | ref e2 =>
    unfold isL at h
    simp only at h
    split at h
    · rename_i l e
      obtain ⟨vs, h1, _⟩ := lst_at S e2 e
      exact .inl ⟨rfl, _, SqL.of h1⟩
    · cases h
  | _ => cases h
theorem ok_mth0 {o : Expr} {f : Str} {o' : IE} {k : Mth} {ap pos : Pos} (hk : mthOf f 0 = some k) (hline : (ap.endLine == pos.line) = true) (nb : attributeBase o f X.env (eval o X.env) = eval o X.env) (h : OkE X T C W o o') : OkE X T C W (.Call (.Attribute o f ap) [] [] pos) (.mth k o' []) := by
  have hp : k = .pop ∧ f = "pop" := by
    unfold mthOf at hk
    repeat' split at hk
    all_goals first | (cases hk; done) | skip
    all_goals
      rename_i hx
      cases hk
      first | exact ⟨rfl, hx.1⟩ | exact absurd hx.2 (by decide)
  obtain ⟨rfl, rfl⟩ := hp
  refine PE.imp (pe_bm0 PySem.F.plainAttrs_list PySem.F.slot_list_pop PySem.F.type_list_pop (m_pop (T := T)) h nb hline) fun σ H Q ⟨ρ, m, env, S, R, q⟩ => ?_
  unfold evalE at q
  refine seqE S R q fun x H1 ρ1 m1 d1 E1 S1 R1 r1 q1 => ?_
  split at q1
  case isFalse => exact (show False from q1).elim
  rename_i hl
  have q2 : Then X.K T ρ1 H1 (mthD .pop d1 [] m1) (fun d _ ρ' H' => ∀ v, RelD X.K ρ' H' d v → Q v H') (exW X.K W σ) := by
    unfold evalEs at q1
    exact q1
  exact ⟨isL_ty S1 r1 hl, ρ1, m1, d1, [], _, S1, r1, .nil, q2⟩
theorem ok_mth1 {o e : Expr} {f : Str} {o' : IE} {l' : List IE} {k : Mth} {ap pos : Pos} (hk : mthOf f 1 = some k) (hline : (ap.endLine == pos.line) = true) (nb : attributeBase o f X.env (eval o X.env) = eval o X.env) (pl : plainE e = true) (h : OkE X T C W o o') (ha : OkA X T C W [e] l') : OkE X T C W (.Call (.Attribute o f ap) [e] [] pos) (.mth k o' l') := by
  have hp : (k = .append ∧ f = "append") ∨ (k = .popAt ∧ f = "pop") := by
    unfold mthOf at hk
    repeat' split at hk
    all_goals first | (cases hk; done) | skip
    all_goals
      rename_i hx
      cases hk
      first | exact .inl ⟨rfl, hx.1⟩ | exact .inr ⟨rfl, hx.1⟩ | exact absurd hx.2 (by decide)
  have few : ((backTo pos (starEach [e] X.env)).all (fun x => !x.1) && (backToKw pos (keywordEach [] X.env)).all (fun x => x.1.isSome)
      && decide (([e] : List Expr).length + ([] : List Keyword).length + (if ([] : List Keyword).isEmpty then 0 else 1) < 30)) = true := by
    rw [noStar pl] <;> rfl
  have s2 : (backTo pos (starEach [] X.env)).any (·.1) = false := rfl
  have fin : ∀ {k : Mth} {σ : L2.St} {H : Hp} {Q : VK}, tE X.K T C W (.mth k o' l') σ H Q → tBM X.K "list" (rM X.K T (mthD k)) (tE X.K T C W o') (tA X.K T C W l') σ H Q := fun {k σ H Q} ⟨ρ, m, env, S, R, q⟩ => by
    unfold evalE at q
    refine seqE S R q fun x H1 ρ1 m1 d1 E1 S1 R1 r1 q1 => ?_
    split at q1
    · rename_i hl
      exact ⟨isL_ty S1 r1 hl, seqA S1 R1 q1 fun xs H2 ρ2 m2 ds E2 S2 R2 r2 q2 => ⟨ρ2, m2, d1, ds, _, S2, r1.mono S1 E2, r2, q2⟩⟩
    · exact (show False from q1).elim
  rcases hp with ⟨rfl, rfl⟩ | ⟨rfl, rfl⟩
  · exact PE.imp (pe_bm PySem.F.plainAttrs_list PySem.F.slot_list_append PySem.F.type_list_append (m_append (T := T)) h ha nb few hline (noStar pl _ _) s2) fun _ _ _ q => fin q
  · exact PE.imp (pe_bm PySem.F.plainAttrs_list PySem.F.slot_list_pop PySem.F.type_list_pop (m_popAt (T := T)) h ha nb few hline (noStar pl _ _) s2) fun _ _ _ q => fin q
end
end Dat

/-! DatEn -/
set_option linter.all false
set_option maxRecDepth 100000
/-! DatEn: enumerate(a tuple). -/
namespace PySem
open Sem (wp)
open AutoSeq1 (wpAny_loadPart')
set_option maxHeartbeats 2000000 in
theorem meets_enumerate_newT (l : Addr) (items : Array Value) :
    Meets (Builtin.«enumerate.__new__» ⟨[.type "enumerate", .ref l], []⟩) (fun _ R s => s.heap.IsTuple l items ∧
      R (.ok (.ret (.ref (s.heap.push { cls := .type "tuple_iterator", data := .fields #[.ref l, .int 0 0] }).objs.size)))
        { s with heap := (s.heap.push { cls := .type "tuple_iterator", data := .fields #[.ref l, .int 0 0] }).push { cls := .type "enumerate", data := .fields #[.none, .bool false, .ref s.heap.objs.size, rawInt 0, .none, .none] } }) :=
  .of_wp fun prog w A R s h => by
    obtain ⟨hp, g, d, tk, os⟩ := s; obtain ⟨hl, h⟩ := h
    have hsub := sub_enumerate
    have hL : Heap.IsTuple (Shared.heap ⟨hp, g, d, tk, os⟩) l items := hl
    have q1 : ∀ {A' : Around} {E : Value → Shared → Prop} {Q : Value → Shared → Prop}, Q (.ref hp.objs.size) ⟨hp.push { cls := .type "tuple_iterator", data := .fields #[.ref l, .int 0 0] }, g, d, tk, os⟩ → wpAny (model prog w) A' (pyIter (.ref l)) Q E ⟨hp, g, d, tk, os⟩ :=
      fun q => wpAny_pyIter_tuple hL q
    wp_walk using q1
    refine wpAny_stack_any fun st => wpAny_pure ?_
    split
    · rename_i c _ _ _ _ _
      cases (c == Value.type "enumerate")
      · wp_walk using q1
        exact ⟨_, rfl, h⟩
      · wp_walk using q1
        exact ⟨_, rfl, h⟩
    · wp_walk using q1
      exact ⟨_, rfl, h⟩
section
variable {prog : Program} {w : World} {A : Around} {E : Value → Shared → Prop} {s : Shared}
theorem call_enumerate_tup {l : Addr} {items : Array Value} {Q : Value → Shared → Prop} (hL : s.heap.IsTuple l items)
    (h : ∀ h', IsEnum h' (s.heap.objs.size + 1) s.heap.objs.size 0 .none → h'.IsTupleIter s.heap.objs.size l 0 → h'.objs.size = s.heap.objs.size + 2 →
      (∀ b o, s.heap.get? b = some o → h'.get? b = some o) → Q (.ref (s.heap.objs.size + 1)) { s with heap := h' }) :
    wpAny (model prog w) A (call (.type "enumerate") [.ref l]) Q E s := by
  refine callType_new F.called_enumerate (by decide) (F.typeCall_enumerate_1 _) (F.newCall_enumerate_1 _) (fun obj => F.args_object_init_2 obj _) F.entry_enumerate_new
    (meets_enumerate_newT l items) ⟨hL, ?_⟩
  have hz : (s.heap.push { cls := .type "tuple_iterator", data := .fields #[.ref l, .int 0 0] }).objs.size = s.heap.objs.size + 1 := Heap.size_push ..
  show _ ∧ _
  rw [hz]
  have he : IsEnum ((s.heap.push { cls := .type "tuple_iterator", data := .fields #[.ref l, .int 0 0] }).push
      { cls := .type "enumerate", data := .fields #[.none, .bool false, .ref s.heap.objs.size, rawInt 0, .none, .none] }) (s.heap.objs.size + 1) s.heap.objs.size 0 .none := by
    have := Heap.get?_push_size (s.heap.push { cls := .type "tuple_iterator", data := .fields #[.ref l, .int 0 0] })
      (o := { cls := .type "enumerate", data := .fields #[.none, .bool false, .ref s.heap.objs.size, rawInt 0, .none, .none] }) rfl
    rw [hz] at this; exact this
  refine ⟨⟨_, he, rfl⟩, h _ he ⟨_, Heap.get?_push_of_some _ (Heap.get?_push_size _ rfl), rfl, rfl⟩ (by rw [Heap.size_push, hz]) fun b o x => Heap.get?_push_of_some _ (Heap.get?_push_of_some _ x)⟩
theorem pyNext_enumT_end {e it l : Addr} {i : Nat} {items : Array Value} {old : Value} {Q : Option Value → Shared → Prop} (hh : A.handled = none)
    (he : IsEnum s.heap e it i old) (hit : s.heap.IsTupleIter it l i) (hl : s.heap.IsTuple l items) (hx : items[i]? = none)
    (hQ : ∀ h', Heap.ExtBut it s.heap h' → Q none { s with heap := h' }) : wpAny (model prog w) A (pyNext (.ref e)) Q E s := by
  have hT : s.TypeIs (.ref e) "enumerate" := ⟨_, he, rfl⟩
  unfold pyNext
  refine wpAny_bind (wpAny_attempt (wpAny_callSpecial?_slot (name := Str.ofString "__next__") hT F.slot_enumerate_next
    (wpAny_call_entry F.slot_enumerate_next hT F.entry_enumerate_next ?_ (F.args_enumerate_next_1 _))))
  show wpAny _ _ (field (.ref e) 2 >>= _) _ _ _
  refine wpAny_bind (wpAny_field he rfl (x := .ref it) rfl ?_)
  refine wpAny_bind (wpAny_nextOf_tuple_end hh hit hl hx fun h' x he' hx' => ?_)
  obtain ⟨o, ho, hc⟩ := hx'
  refine wpAny_bind (wpAny_isInstance (T := "StopIteration") (b := true) ⟨o, ho, hc⟩ isSubtype_stop ?_)
  exact wpAny_pure (hQ _ he')
end
end PySem
namespace Dat
open PySem PySem.Spec PyProof.Rows L2
/-- the tuple at a, each item in a new pair -/
def IteT (K : PySem.W.Frag) (a : Addr) : It :=
  ⟨fun i H => ∃ (xs : List V) (x : V), SqT K H a xs ∧ xs[i]? = some x, fun i H v H' => ∃ T x, v = .ref T ∧ H T = none ∧ H' = upd H T (.tup [.int (i : Nat), x]) ∧ ∀ xs, SqT K H a xs → xs[i]? = some x, fun i H => ∃ xs : List V, SqT K H a xs ∧ xs.length ≤ i⟩
theorem turn_enumT {P : Program} {w : World} {K : PySem.W.Frag} {elts : List Expr} {kk : Nat} {tpos : Pos} (a e it : Addr) (hae : a ≠ e) (hai : a ≠ it) :
    Turn P w K (.Tuple elts kk tpos) (IteT K a) [e, it] e (fun i h => (∃ old, IsEnum h e it ((i : Nat) : Int) old) ∧ h.IsTupleIter it a i ∧ e ≠ it) where
  mem := by simp
  obj := fun i h st b hb => by
    obtain ⟨⟨old, he⟩, ⟨o, ho, hc, hd⟩, _⟩ := st
    have e' : b = e ∨ b = it := by simpa using hb
    rcases e' with z | z
    · rw [z]; exact ⟨_, he, fun v q => nomatch q⟩
    · rw [z]; exact ⟨o, ho, fun v q => by rw [hd] at q; cases q⟩
  keep := fun i h h' st k => let ⟨⟨old, he⟩, hi, hne⟩ := st; ⟨⟨old, k e (by simp) _ he⟩, hi.at fun o q => k it (by simp) o q, hne⟩
  item := by
    intro X hP hw hK hc i pins s σ H E I hf st hg
    subst hP hw hK
    obtain ⟨⟨old, he⟩, hit, hne⟩ := st
    obtain ⟨xs, x, hq, hx⟩ := hg
    obtain ⟨its, rv, p, hz⟩ := I.tuple hq
    obtain ⟨u, hu, ru⟩ := rv.get hx
    have hel : e < s.heap.objs.size := Heap.lt_size he
    have hil : it < s.heap.objs.size := by obtain ⟨_, q, _⟩ := hit; exact Heap.lt_size q
    have hlt : i < its.toArray.size := by
      have := (List.getElem?_eq_some_iff.mp hu).1
      simpa using this
    refine wpAny_pyNext_enum_itemD (Draws.tuple (prog := X.prog) (w := X.w) (A := X.A.in1) (I.ok.hd hc) it a hai its.toArray) he ⟨hit, p⟩ hlt hne (fun hm => ?_) fun x' h' tk hx' ho hit' hT hsz hk => ?_
    · rcases List.mem_cons.mp hm with q | hm
      · exact hne q
      · exact hae (List.mem_singleton.mp hm).symm
    have ex : x' = u := by
      have : its.toArray[i]? = some u := by simpa using hu
      rw [this] at hx'
      cases hx'
      rfl
    subst ex
    refine ⟨_, rfl, wpAny_letOwnedTupleGo_enum (s := { s with heap := h', toks := tk + 1 }) ho fun h'' he' sb => ?_⟩
    have hT2 : h''.get? s.heap.objs.size = some { cls := .type "tuple", data := .seq #[.int i tk, x'] } := (sb.2 _ (Nat.ne_of_gt hel)).trans hT
    have new : ObjOk X.prog X.w (upd H s.heap.objs.size (.tup [.int (i : Nat), x])) h'' s.heap.objs.size (.tup [.int (i : Nat), x]) :=
      ⟨by show 2 ≤ sizeLine; decide, [.int i tk, x'], .cons ⟨_, rfl⟩ (.cons ru .nil), ⟨_, hT2, rfl, _, rfl⟩⟩
    have I1 : L2.Inv X pins σ (upd H s.heap.objs.size (.tup [.int (i : Nat), x])) { s with heap := h'', toks := tk + 1 } :=
      I.turnedNew (ch := [e, it]) (fun b ob hb q => (sb.2 b (fun z => hb (by simp [z]))).trans (hk b ob (fun z => hb (by simp [z])) (fun z => hb (by simp [z])) q)) hf (Nat.le_refl _) new
    refine ⟨.ref s.heap.objs.size, _, I1, rfl, ⟨_, x, rfl, I.hok.fresh (Nat.le_refl _), rfl, fun ys hy => by rw [I.tuple_inj hy hq]; exact hx⟩, ⟨⟨x', ?_⟩, hit'.1.at fun o q => (sb.2 it (Ne.symm hne)).trans q, hne⟩, fun b hb => ?_⟩
    · have e1 : ((i + 1 : Nat) : Int) = (i : Int) + 1 := by omega
      rw [e1]; exact he'
    · have hb' : b < s.heap.objs.size := by
        have e' : b = e ∨ b = it := by simpa using hb
        rcases e' with z | z
        · rw [z]; exact hel
        · rw [z]; exact hil
      rw [upd_ne (Nat.ne_of_lt hb')]
      exact (hf b hb).1
  done := by
    intro X hP hw hK hc i pins s σ H E I hf st hg
    subst hP hw hK
    obtain ⟨⟨old, he⟩, hit, hne⟩ := st
    obtain ⟨xs, hq, hx⟩ := hg
    obtain ⟨its, rv, p, hz⟩ := I.tuple hq
    obtain ⟨f0, f1, f2, f3, f4, f5⟩ := hf it (by simp)
    have hl := rv.length
    exact pyNext_enumT_end (I.ok.hd hc) he hit p (by simp; omega) fun h' eb => ⟨rfl, I.turned (t' := s.toks) (fun b o hb q => eb b o hb q) f0 f1 f3 f4 f5⟩
  self := fun A i s Q E st h => let ⟨⟨_, he⟩, _⟩ := st; wpAny_pyIter_enum he h
/-- enumerate(a list or a tuple) -/
def iEnumA (K : PySem.W.Frag) (ta : TA) : TI := fun σ H R => ta σ H fun vs H1 => ∃ a xs, vs = [.ref a] ∧ ((SqL K H1 a xs ∧ R (Ite K a) H1) ∨ (SqT K H1 a xs ∧ R (IteT K a) H1))
theorem pi_enumA {X : Cx} {e : Expr} {ta : TA} {p pos tpos : Pos} {elts : List Expr} {kk : Nat} (hg : Gl X "enumerate") (hm : X.mg "enumerate" = none) (ha : PA X [e] ta) (hs : starEach [e] X.env = [(false, eval e X.env)] := by rfl) :
    PI X (.Tuple elts kk tpos) (.Call (.Name "enumerate" p) [e] [] pos) (iEnumA X.K ta) := by
  refine ⟨fun pins s σ H R I h => ?_⟩
  refine Call_ (ld_blt I hg hm boot_enumerate (PyProof.Rows.callWith_type1 (thn (ha.run pos pins s σ H _ I h) fun us s1 ⟨vs, H1, I1, r1, q1⟩ => ?_) hs rfl))
  obtain ⟨a, xs, ex, q1⟩ := q1
  subst ex
  cases r1 with
  | cons r rr =>
    cases rr
    cases r
    have fre : ∀ b, b ∈ [s1.heap.objs.size + 1, s1.heap.objs.size] → FpOk X pins H1 b := fun b hb => by
      have e' : b = s1.heap.objs.size + 1 ∨ b = s1.heap.objs.size := by simpa using hb
      have hle : s1.heap.objs.size ≤ b := by
        rcases e' with z | z
        · rw [z]; exact Nat.le_add_right _ _
        · rw [z]; exact Nat.le_refl _
      exact I1.fpOk hle (I1.hok.fresh hle)
    rcases q1 with ⟨hq, q⟩ | ⟨hq, q⟩
    · obtain ⟨its, rv, p', hz⟩ := I1.list hq
      refine call_enumerate_list p'.isList fun h' he hit hsz hk => wpAny_pyIter_enum he ?_
      have I2 : L2.Inv X pins σ H1 { s1 with heap := h' } := I1.kept (t' := s1.toks) hk
      exact ⟨s1.heap.objs.size + 1, [s1.heap.objs.size + 1, s1.heap.objs.size], _, _, H1, rfl, I2, turn_enum a (s1.heap.objs.size + 1) s1.heap.objs.size, ⟨⟨.none, he⟩, hit, Nat.succ_ne_self _⟩, fre, q⟩
    · obtain ⟨its, rv, p', hz⟩ := I1.tuple hq
      obtain ⟨o1, ho1, _⟩ := id p'
      have hlt := Heap.lt_size ho1
      refine call_enumerate_tup (show s1.heap.IsTuple a its.toArray from p') fun h' he hit hsz hk => wpAny_pyIter_enum he ?_
      have I2 : L2.Inv X pins σ H1 { s1 with heap := h' } := I1.kept (t' := s1.toks) hk
      exact ⟨s1.heap.objs.size + 1, [s1.heap.objs.size + 1, s1.heap.objs.size], _, _, H1, rfl, I2, turn_enumT a (s1.heap.objs.size + 1) s1.heap.objs.size (Nat.ne_of_lt (Nat.lt_succ_of_lt hlt)) (Nat.ne_of_lt hlt), ⟨⟨.none, he⟩, hit, Nat.succ_ne_self _⟩, fre, q⟩
end Dat

/-! DatRev -/
set_option linter.all false
set_option maxRecDepth 100000
set_option maxHeartbeats 4000000
/-! DatRev: list(reversed(x)), x a list or a tuple. -/
namespace RT
open PySem PySem.Spec PyProof.Rows L2
theorem nolen_rt : typeLookup (.type "reversed") "__len__" = pure none := by rw [typeLookup_type, builtinLookup_eq_fast]; kernel_rfl
theorem hint_rt : typeLookup (.type "reversed") "__length_hint__" = pure (some (.builtin "reversed.__length_hint__")) := by rw [typeLookup_type, builtinLookup_eq_fast]; kernel_rfl
theorem Walks.rt {prog : Program} {w : World} {A : Around} (hh : A.handled = none) (I t : Addr) (hne : t ≠ I) (items : Array Value) (hsz : items.size ≤ sizeLine) :
    Walks prog w A I [I, t] [I] items.size (fun i v => items[items.size - 1 - i]? = some v) (fun i h => i ≤ items.size ∧ IsRt h I t ((items.size : Int) - 1 - (i : Int)) ∧ IsTup h t items) where
  sub := fun b hb => by simp at hb; simp [hb]
  frame := fun _ _ _ x hk => ⟨x.1, x.2.1.at fun o e => hk I (by simp) o e, (let ⟨o, e, r⟩ := x.2.2; ⟨o, hk t (by simp) o e, r⟩)⟩
  item := fun i s Q E hi x hQ => by
    have e : (items.size : Int) - 1 - (i : Int) = ((items.size - 1 - i : Nat) : Int) := by omega
    have hit := x.2.1
    rw [e] at hit
    have hx : items[items.size - 1 - i]? = some (items[items.size - 1 - i]'(by omega)) := Array.getElem?_eq_getElem (by omega)
    have e2 : ((items.size - 1 - i : Nat) : Int) - 1 = (items.size : Int) - 1 - ((i + 1 : Nat) : Int) := by omega
    refine next_rt_item hit x.2.2 hx hsz fun h' hit' hs' => ?_
    rw [e2] at hit'
    exact hQ _ h' (s.toks + 1) hx ⟨hi, hit', (let ⟨o, eo, r⟩ := x.2.2; ⟨o, (hs'.2 t hne).trans eo, r⟩)⟩ fun b o hb eo => hs'.extBut b o (fun h => hb (by simp [h])) eo
  done := fun s Q E x hQ => by
    have e : (items.size : Int) - 1 - (items.size : Int) = -1 := by omega
    have hit := x.2.1
    rw [e] at hit
    exact next_rt_end hh hit fun h' he' => hQ h' s.toks fun b o hb eo => he' b o (fun h => hb (by simp [h])) eo
  self := fun _ _ _ _ x hQ => iter_rt x.2.1 hQ
theorem asI (n : Int) (u : Tok) : asInt? (.int n u) = pure (some n) := rfl
theorem slot_rt_hint : Slot "reversed" "__length_hint__" "reversed.__length_hint__" :=
  .of (owner := "reversed") (n := "__length_hint__") (by rw [typeLookup_type, builtinLookup_eq_fast]; kernel_rfl) (by decide +kernel) (by decide +kernel) (by decide +kernel)
    (by first | exact .inl (by decide +kernel) | exact .inr (by decide +kernel)) (by rw [isSubtype_type]; kernel_rfl)
theorem entry_rt_hint : entryFor table "reversed.__length_hint__" = some Builtin.«reversed.__length_hint__» := entryFor_of_tree (by kernel_rfl)
theorem args_rt_hint (a : Value) : argsOk "reversed.__length_hint__" ⟨[a], []⟩ := by
  unfold argsOk; rw [signature?_of (id := "reversed.__length_hint__") (n := "__length_hint__".toList.reverse) (o := ['d', 'e', 's', 'r', 'e', 'v', 'e', 'r']) (by kernel_rfl) owner_rt]; kernel_rfl
theorem call_hint {prog : Program} {w : World} {A : Around} {E : Value → Shared → Prop} {s : Shared} {it t : Addr} {items : Array Value} {Q : Value → Shared → Prop} (hit : IsRt s.heap it t ((items.size : Int) - 1)) (ht : IsTup s.heap t items) (hsz : items.size ≤ sizeLine)
    (hQ : ∀ tk u, s.toks ≤ tk → Q (.int items.size u) { s with toks := tk }) : wpAny (model prog w) A (call (.builtin "reversed.__length_hint__") [.ref it]) Q E s := by
  obtain ⟨o, ho, hc, hd⟩ := id hit
  have hsz2 := hsz
  rw [sizeLine_eq] at hsz2
  refine wpAny_call_entry slot_rt_hint hit.typeIs entry_rt_hint ?_ (args_rt_hint _)
  unfold Builtin.«reversed.__length_hint__»
  refine wpAny_bind (wpAny_of_eq (a := Value.ref it) rfl ?_)
  try dsimp only
  refine wpAny_bind (wpAny_field ho hd (x := .ref t) rfl ?_)
  rw [if_neg (show ¬ ((Value.ref t == Value.none) = true) from Bool.false_ne_true)]
  refine wpAny_bind (PyProof.Rows.len_tuple ht (by omega) ?_)
  refine wpAny_bind (wpAny_of_eq (a := some (items.size : Int)) rfl ?_)
  try dsimp only
  refine wpAny_bind (wpAny_field (s := { s with toks := s.toks + 1 + 1 }) ho hd (x := rawInt ((items.size : Int) - 1)) rfl ?_)
  try dsimp only
  show wpAny _ _ (if (items.size : Int) < (items.size : Int) - 1 + 1 then _ else _) _ _ _
  rw [if_neg (by omega)]
  have e : (items.size : Int) - 1 + 1 = items.size := by omega
  rw [e]
  unfold retInt
  exact wpAny_bind (wpAny_mkInt (wpAny_pure ⟨_, rfl, hQ _ _ (by show s.toks ≤ s.toks + 1 + 1 + 1; omega)⟩))
section
variable {prog : Program} {w : World} {A : Around} {s : Shared} {R : Result → Shared → Prop}
variable {I : Addr} {fp wr : List Addr} {G : Array GenState → Array GenState → Prop} {n : Nat} {P : Nat → Value → Prop} {St : Nat → Shared → Prop}
theorem extend_tail (W : WalksS prog w A.in1 I fp wr G n P St) (S : Addr) (res : Value) (c₀ : Nat) (b : Bool) (hst : St 0 s) (hSf : S ∉ fp)
    (hS : s.heap.get? S = some { cls := .type "list", data := .seq #[] c₀ })
    (hR : ∀ s' acc' c', Moved (S :: wr) G s s' → s'.heap.get? S = some { cls := .type "list", dict := none, data := .seq acc' c', slots := #[] } → ItemsOf P acc' n → R (.ok (.ret res)) s') (hn : n ≤ sizeLine) :
    wpAny (model prog w) A.in1 (if b = true then (do rule "list.extend.makes-room"; Builtin.List.listTouch (.ref S); again (.builtin "list.extend.loop" ⟨[.ref S, .ref I, res], []⟩)) else again (.builtin "list.extend.loop" ⟨[.ref S, .ref I, res], []⟩))
      (fun fin s' => match fin with | .done f => R (.ok f) s' | .again c' => c'.quiet = true ∧ codeAny (model prog w) A c' R s') (fun e s' => R (.error e) s') s := by
  cases b with
  | true =>
    rw [if_pos rfl]
    show wpAny _ A.in1 (rule "list.extend.makes-room" >>= fun _ => Builtin.List.listTouch (.ref S) >>= fun _ =>
      again (.builtin "list.extend.loop" ⟨[.ref S, .ref I, res], []⟩)) _ _ _
    refine wpAny_bind (wpAny_rule ?_)
    refine wpAny_bind ?_
    show wpAny _ A.in1 (updateSeq S (·.push .none) >>= fun _ => updateSeq S (·.pop)) _ _ _
    refine wpAny_bind (wpAny_updateSeq hS rfl ?_)
    have hS₂ := Heap.get?_update_self (Obj.mapSeq (·.push Value.none)) hS rfl
    refine wpAny_updateSeq (hz := by seq_fits) hS₂ rfl ?_
    have hS₃ := Heap.get?_update_self (Obj.mapSeq (·.pop)) hS₂ rfl
    have oth : ∀ b o, b ≠ S → s.heap.get? b = some o → ((s.heap.update S (Obj.mapSeq (·.push Value.none))).update S (Obj.mapSeq (·.pop))).get? b = some o :=
      fun b o hb e => (Heap.get?_update_other _ _ (Ne.symm hb)).trans ((Heap.get?_update_other _ _ (Ne.symm hb)).trans e)
    refine wpAny_pure ⟨plainId_quiet F.plain_extend_loop _, codeAny_extend_loopS W hn _ hSf _ n 0 _ _ _ rfl (Nat.zero_le _)
      (W.frame 0 s _ s.toks hst (Nat.le_refl _) fun b hb o e => oth b o (fun h => hSf (h ▸ hb)) e) hS₃ (ItemsOf.nil P) fun s' acc' c' hm hS' hacc => ?_⟩
    exact hR s' acc' c' (Moved.trans W.gtrans ((Moved.refl W.grefl).then_heap (Nat.le_refl _) fun b o hb e => oth b o (fun h => hb (h ▸ List.mem_cons_self)) e) hm) hS' hacc
  | false =>
    rw [if_neg (by decide)]
    refine wpAny_pure ⟨plainId_quiet F.plain_extend_loop _, codeAny_extend_loopS W hn _ hSf _ n 0 _ _ _ rfl (Nat.zero_le _) hst hS (ItemsOf.nil P) fun s' acc' c' hm hS' hacc => ?_⟩
    exact hR s' acc' c' hm hS' hacc
theorem extend_rt (W : WalksS prog w A.in1 I fp wr G n P St) (hT : ∀ i s, St i s → s.TypeIs (.ref I) "reversed") {t : Addr} {items : Array Value} (hz0 : items.size ≤ sizeLine) (hs0 : ∀ s, St 0 s → IsRt s.heap I t ((items.size : Int) - 1) ∧ IsTup s.heap t items) (S : Addr) (res : Value) (c₀ : Nat) (hst : St 0 s) (hSf : S ∉ fp) (hI : I ∈ fp)
    (hS : s.heap.get? S = some { cls := .type "list", data := .seq #[] c₀ })
    (hR : ∀ s' acc' c', Moved (S :: wr) G s s' → s'.heap.get? S = some { cls := .type "list", dict := none, data := .seq acc' c', slots := #[] } → ItemsOf P acc' n → R (.ok (.ret res)) s') (hn : n ≤ sizeLine) :
    wpAny (model prog w) A.in1 (Builtin.List.listExtendWith (.ref S) (.ref I) res)
      (fun fin s' => match fin with | .done f => R (.ok f) s' | .again c' => c'.quiet = true ∧ codeAny (model prog w) A c' R s') (fun e s' => R (.error e) s') s := by
  have hSI : S ≠ I := fun e => hSf (e ▸ hI)
  unfold Builtin.List.listExtendWith
  refine wpAny_bind (wpAny_typeOf (hT 0 _ hst) ?_)
  have h1 : Builtin.List.listSameRef (.ref S) (.ref I) = false := by simp [Builtin.List.listSameRef, hSI]
  have h2 : (Value.type "reversed" == Value.type "list") = false := by decide
  have h3 : (Value.type "reversed" == Value.type "tuple") = false := by decide
  simp only [h1, h2, h3, Bool.or_false, Bool.false_eq_true, if_false]
  refine wpAny_bind (W.self 0 _ _ _ hst ?_)
  refine wpAny_bind (wpAny_holding ?_)
  unfold Builtin.List.listLengthHint
  refine wpAny_bind (wpAny_specialOf (hT 0 _ hst) nolen_rt ?_)
  show wpAny _ A.in1 (specialOf (Value.ref I) (Str.ofString "__length_hint__") >>= _) _ _ _
  refine wpAny_bind (wpAny_specialOf (hT 0 _ hst) hint_rt ?_)
  generalize hid : ("reversed.__length_hint__" : String) = id0
  wp_delta
  rw [show splitId id0 = some ("reversed", "__length_hint__") from by subst hid; decide +kernel]
  subst hid
  refine wpAny_bind (wpAny_isInstance (b := true) (hT 0 _ hst) (by rw [isSubtype_type]; kernel_rfl) ?_)
  rw [if_neg (by decide)]
  dsimp only
  rw [if_neg (by decide +kernel)]
  refine wpAny_bind (wpAny_rule ?_)
  refine wpAny_bind (wpAny_of_eq (slot_rt_hint.bind _) ?_)
  try dsimp only
  obtain ⟨r1, r2⟩ := hs0 _ hst
  refine wpAny_bind (wpAny_attempt (call_hint r1 r2 hz0 fun tk u htk => ?_))
  try dsimp only
  have hsz2 := hz0
  rw [sizeLine_eq] at hsz2
  rw [asI, pure_bind]
  dsimp only
  have f1 : Builtin.List.listFitsIndex (items.size : Int) = true := by
    unfold Builtin.List.listFitsIndex
    simp only [Bool.and_eq_true, decide_eq_true_eq]
    omega
  rw [if_neg (by rw [f1]; decide), if_neg (by omega)]
  have f2 : Builtin.List.listTooLong (items.size : Int).toNat = false := by
    unfold Builtin.List.listTooLong
    simp only [Int.toNat_natCast, decide_eq_false_iff_not]
    omega
  rw [if_neg (by rw [f2]; decide)]
  refine wpAny_pure ?_
  have hst1 : St 0 { s with toks := tk } := W.frame 0 s s.heap tk hst htk fun _ _ _ e => e
  clear f1 f2 hsz2
  refine extend_tail W S res c₀ _ hst1 hSf hS (fun s' acc' c' m hS' hacc => hR s' acc' c' ⟨m.heap, m.gens, m.drawn, m.os, Nat.le_trans htk m.toks⟩ hS' hacc) hn
theorem list_init_rt (W : WalksS prog w A.in1 I fp wr G n P St) (hT : ∀ i s, St i s → s.TypeIs (.ref I) "reversed") {t : Addr} {items : Array Value} (hz0 : items.size ≤ sizeLine) (hs0 : ∀ s, St 0 s → IsRt s.heap I t ((items.size : Int) - 1) ∧ IsTup s.heap t items) (S : Addr) (hst : St 0 s) (hSf : S ∉ fp) (hI : I ∈ fp)
    (hS : s.heap.get? S = some { cls := .type "list", data := .seq #[] })
    (hR : ∀ s' acc' c', Moved (S :: wr) G s s' → s'.heap.get? S = some { cls := .type "list", dict := none, data := .seq acc' c', slots := #[] } → ItemsOf P acc' n → R (.ok (.ret .none)) s') (hn : n ≤ sizeLine) :
    wpAny (model prog w) A.in1 (Builtin.«list.__init__» ⟨[.ref S, .ref I], []⟩)
      (fun fin s' => match fin with | .done f => R (.ok f) s' | .again c' => c'.quiet = true ∧ codeAny (model prog w) A c' R s') (fun e s' => R (.error e) s') s := by
  show wpAny _ A.in1 (do let old ← Builtin.List.listItems (.ref S); Builtin.List.listUpdate (.ref S) (fun _ => #[]); letGo old.toList.reverse; Builtin.List.listExtendWith (.ref S) (.ref I) .none) _ _ s
  refine wpAny_bind ?_
  unfold Builtin.List.listItems
  refine wpAny_bind (wpAny_seqItems hS rfl (wpAny_pure ?_))
  show wpAny _ A.in1 (updateSeq S (fun _ => #[]) >>= fun _ => letGo (#[] : Array Value).toList.reverse >>= fun _ => Builtin.List.listExtendWith (.ref S) (.ref I) .none) _ _ s
  refine wpAny_bind (wpAny_updateSeq hS rfl ?_)
  have hS₂ := Heap.get?_update_self (Obj.mapSeq (fun _ => (#[] : Array Value))) hS rfl
  have oth : ∀ b o, b ≠ S → s.heap.get? b = some o → (s.heap.update S (Obj.mapSeq (fun _ => (#[] : Array Value)))).get? b = some o :=
    fun b o hb e => (Heap.get?_update_other _ _ (Ne.symm hb)).trans e
  refine wpAny_bind (wpAny_letGo ?_)
  refine extend_rt (hn := hn) W hT hz0 hs0 S .none _ (W.frame 0 s _ s.toks hst (Nat.le_refl _) fun b hb o e => oth b o (fun h => hSf (h ▸ hb)) e) hSf hI hS₂ fun s' acc' c' hm hS' hacc => ?_
  exact hR s' acc' c' (Moved.trans W.gtrans ((Moved.refl W.grefl).then_heap (Nat.le_refl _) fun b o hb e => oth b o (fun h => hb (h ▸ List.mem_cons_self)) e) hm) hS' hacc
theorem call_list_rt {E : Value → Shared → Prop} {Q : Value → Shared → Prop} (W : WalksS prog w A.in1.in1 I fp wr G n P St) (hT : ∀ i s, St i s → s.TypeIs (.ref I) "reversed") {t : Addr} {items : Array Value} (hz0 : items.size ≤ sizeLine) (hs0 : ∀ s, St 0 s → IsRt s.heap I t ((items.size : Int) - 1) ∧ IsTup s.heap t items) (hst : St 0 s) (hfp : ∀ b ∈ fp, b < s.heap.objs.size) (hI : I ∈ fp)
    (hQ : ∀ s' acc' c', Moved (s.heap.objs.size :: wr) G { s with heap := s.heap.push { cls := .type "list", data := .seq #[] } } s' →
      s'.heap.get? s.heap.objs.size = some { cls := .type "list", dict := none, data := .seq acc' c', slots := #[] } → ItemsOf P acc' n → Q (.ref s.heap.objs.size) s') (hn : n ≤ sizeLine) :
    wpAny (model prog w) A (call (.type "list") [.ref I]) Q E s := by
  have hSf : s.heap.objs.size ∉ fp := fun hm => Nat.lt_irrefl _ (hfp _ hm)
  refine callType_codes (Q₁ := fun obj s₁ => obj = .ref s.heap.objs.size ∧ s₁ = { s with heap := s.heap.push { cls := .type "list", data := .seq #[] } }) F.called_list (F.typeCall_list_1 _) F.entry_list_init
    (code_list_new _ ⟨rfl, rfl⟩) fun obj s₁ h₁ => ?_
  obtain ⟨rfl, rfl⟩ := h₁
  have hS : (s.heap.push { cls := .type "list", data := .seq #[] }).get? s.heap.objs.size = some { cls := .type "list", data := .seq #[] } := Heap.get?_push_size _ rfl
  refine ⟨⟨_, hS, rfl⟩, F.args_list_init_2 _ _, list_init_rt (hn := hn) W hT hz0 hs0 _ (W.frame 0 s _ s.toks hst (Nat.le_refl _) fun b _ o e => Heap.get?_push_of_some _ e) hSf hI hS fun s' acc' c' hm hS' hacc => ?_⟩
  exact ⟨rfl, hQ s' acc' c' hm hS' hacc⟩
end
section
variable {prog : Program} {w : World} {A : Around} {s : Shared} {R : Result → Shared → Prop}
variable {I : Addr} {fp wr : List Addr} {G : Array GenState → Array GenState → Prop} {n : Nat} {P : Nat → Value → Prop} {St : Nat → Shared → Prop}
theorem extend_lri (W : WalksS prog w A.in1 I fp wr G n P St) (hT : ∀ i s, St i s → s.TypeIs (.ref I) "list_reverseiterator") (S : Addr) (res : Value) (c₀ : Nat) (hst : St 0 s) (hSf : S ∉ fp) (hI : I ∈ fp)
    (hS : s.heap.get? S = some { cls := .type "list", data := .seq #[] c₀ })
    (hR : ∀ s' acc' c', Moved (S :: wr) G s s' → s'.heap.get? S = some { cls := .type "list", dict := none, data := .seq acc' c', slots := #[] } → ItemsOf P acc' n → R (.ok (.ret res)) s') (hn : n ≤ sizeLine) :
    wpAny (model prog w) A.in1 (Builtin.List.listExtendWith (.ref S) (.ref I) res)
      (fun fin s' => match fin with | .done f => R (.ok f) s' | .again c' => c'.quiet = true ∧ codeAny (model prog w) A c' R s') (fun e s' => R (.error e) s') s := by
  have hSI : S ≠ I := fun e => hSf (e ▸ hI)
  unfold Builtin.List.listExtendWith
  refine wpAny_bind (wpAny_typeOf (hT 0 _ hst) ?_)
  have h1 : Builtin.List.listSameRef (.ref S) (.ref I) = false := by simp [Builtin.List.listSameRef, hSI]
  have h2 : (Value.type "list_reverseiterator" == Value.type "list") = false := by decide
  have h3 : (Value.type "list_reverseiterator" == Value.type "tuple") = false := by decide
  simp only [h1, h2, h3, Bool.or_false, Bool.false_eq_true, if_false]
  refine wpAny_bind (W.self 0 _ _ _ hst ?_)
  refine wpAny_bind (wpAny_holding ?_)
  unfold Builtin.List.listLengthHint
  refine wpAny_bind (wpAny_specialOf (hT 0 _ hst) nolen_lri ?_)
  show wpAny _ A.in1 (specialOf (Value.ref I) (Str.ofString "__length_hint__") >>= _) _ _ _
  refine wpAny_bind (wpAny_specialOf (hT 0 _ hst) hint_lri ?_)
  generalize hid : ("list_reverseiterator.__length_hint__" : String) = id0
  wp_delta
  rw [show splitId id0 = some ("list_reverseiterator", "__length_hint__") from by subst hid; decide +kernel]
  subst hid
  refine wpAny_bind (wpAny_isInstance (b := true) (hT 0 _ hst) (by rw [isSubtype_type]; kernel_rfl) ?_)
  refine wpAny_pure ?_
  rw [if_neg (by decide)]
  refine wpAny_pure ⟨plainId_quiet F.plain_extend_loop _, codeAny_extend_loopS W hn _ hSf _ n 0 _ _ _ rfl (Nat.zero_le _) hst hS (ItemsOf.nil P) fun s' acc' c' hm hS' hacc => ?_⟩
  exact hR s' acc' c' hm hS' hacc
theorem list_init_lri (W : WalksS prog w A.in1 I fp wr G n P St) (hT : ∀ i s, St i s → s.TypeIs (.ref I) "list_reverseiterator") (S : Addr) (hst : St 0 s) (hSf : S ∉ fp) (hI : I ∈ fp)
    (hS : s.heap.get? S = some { cls := .type "list", data := .seq #[] })
    (hR : ∀ s' acc' c', Moved (S :: wr) G s s' → s'.heap.get? S = some { cls := .type "list", dict := none, data := .seq acc' c', slots := #[] } → ItemsOf P acc' n → R (.ok (.ret .none)) s') (hn : n ≤ sizeLine) :
    wpAny (model prog w) A.in1 (Builtin.«list.__init__» ⟨[.ref S, .ref I], []⟩)
      (fun fin s' => match fin with | .done f => R (.ok f) s' | .again c' => c'.quiet = true ∧ codeAny (model prog w) A c' R s') (fun e s' => R (.error e) s') s := by
  show wpAny _ A.in1 (do let old ← Builtin.List.listItems (.ref S); Builtin.List.listUpdate (.ref S) (fun _ => #[]); letGo old.toList.reverse; Builtin.List.listExtendWith (.ref S) (.ref I) .none) _ _ s
  refine wpAny_bind ?_
  unfold Builtin.List.listItems
  refine wpAny_bind (wpAny_seqItems hS rfl (wpAny_pure ?_))
  show wpAny _ A.in1 (updateSeq S (fun _ => #[]) >>= fun _ => letGo (#[] : Array Value).toList.reverse >>= fun _ => Builtin.List.listExtendWith (.ref S) (.ref I) .none) _ _ s
  refine wpAny_bind (wpAny_updateSeq hS rfl ?_)
  have hS₂ := Heap.get?_update_self (Obj.mapSeq (fun _ => (#[] : Array Value))) hS rfl
  have oth : ∀ b o, b ≠ S → s.heap.get? b = some o → (s.heap.update S (Obj.mapSeq (fun _ => (#[] : Array Value)))).get? b = some o :=
    fun b o hb e => (Heap.get?_update_other _ _ (Ne.symm hb)).trans e
  refine wpAny_bind (wpAny_letGo ?_)
  refine extend_lri (hn := hn) W hT S .none _ (W.frame 0 s _ s.toks hst (Nat.le_refl _) fun b hb o e => oth b o (fun h => hSf (h ▸ hb)) e) hSf hI hS₂ fun s' acc' c' hm hS' hacc => ?_
  exact hR s' acc' c' (Moved.trans W.gtrans ((Moved.refl W.grefl).then_heap (Nat.le_refl _) fun b o hb e => oth b o (fun h => hb (h ▸ List.mem_cons_self)) e) hm) hS' hacc
theorem call_list_lri {E : Value → Shared → Prop} {Q : Value → Shared → Prop} (W : WalksS prog w A.in1.in1 I fp wr G n P St) (hT : ∀ i s, St i s → s.TypeIs (.ref I) "list_reverseiterator") (hst : St 0 s) (hfp : ∀ b ∈ fp, b < s.heap.objs.size) (hI : I ∈ fp)
    (hQ : ∀ s' acc' c', Moved (s.heap.objs.size :: wr) G { s with heap := s.heap.push { cls := .type "list", data := .seq #[] } } s' →
      s'.heap.get? s.heap.objs.size = some { cls := .type "list", dict := none, data := .seq acc' c', slots := #[] } → ItemsOf P acc' n → Q (.ref s.heap.objs.size) s') (hn : n ≤ sizeLine) :
    wpAny (model prog w) A (call (.type "list") [.ref I]) Q E s := by
  have hSf : s.heap.objs.size ∉ fp := fun hm => Nat.lt_irrefl _ (hfp _ hm)
  refine callType_codes (Q₁ := fun obj s₁ => obj = .ref s.heap.objs.size ∧ s₁ = { s with heap := s.heap.push { cls := .type "list", data := .seq #[] } }) F.called_list (F.typeCall_list_1 _) F.entry_list_init
    (code_list_new _ ⟨rfl, rfl⟩) fun obj s₁ h₁ => ?_
  obtain ⟨rfl, rfl⟩ := h₁
  have hS : (s.heap.push { cls := .type "list", data := .seq #[] }).get? s.heap.objs.size = some { cls := .type "list", data := .seq #[] } := Heap.get?_push_size _ rfl
  refine ⟨⟨_, hS, rfl⟩, F.args_list_init_2 _ _, list_init_lri (hn := hn) W hT _ (W.frame 0 s _ s.toks hst (Nat.le_refl _) fun b _ o e => Heap.get?_push_of_some _ e) hSf hI hS fun s' acc' c' hm hS' hacc => ?_⟩
  exact ⟨rfl, hQ s' acc' c' hm hS' hacc⟩
end
/-- list(reversed(x)): a new list -/
def tListRev (K : PySem.W.Frag) (te : TE) : TE := fun σ H Q => te σ H fun v H1 => ∃ (a : Addr) (xs : List V), v = .ref a ∧ (SqL K H1 a xs ∨ SqT K H1 a xs) ∧ ∀ q, H1 q = none → Q (.ref q) (upd H1 q (.lst xs.reverse))
section
variable {X : Cx}
theorem listRev_end {pins : List (Addr × Obj)} {σ : L2.St} {H1 : Hp} {s1 s2 s' : Shared} {Q : VK} {xs : List V} {its : List Value} {acc : Array Value} {c' : Nat} {it S : Addr} (I1 : Inv X pins σ H1 s1) (rv : Vals xs its) (hz : xs.length ≤ sizeLine)
    (hi : s1.heap.objs.size ≤ it) (hS : s1.heap.objs.size ≤ S) (hk : ∀ b o, s1.heap.get? b = some o → s2.heap.get? b = some o) (e2 : s2 = { s1 with heap := s2.heap, toks := s2.toks })
    (hm : Moved [S, it] (fun a b => b = a) s2 s') (hS' : s'.heap.get? S = some { cls := .type "list", dict := none, data := .seq acc c', slots := #[] }) (ha : ItemsOf (fun i v => its.toArray[its.toArray.size - 1 - i]? = some v) acc its.toArray.size)
    (q : ∀ q, H1 q = none → Q (.ref q) (upd H1 q (.lst xs.reverse))) : EP X pins σ Q (.ref S) s' := by
  have k : ∀ b o, s1.heap.get? b = some o → s'.heap.get? b = some o := fun b o e => hm.heap b o (fun z => by
    have lt : b < s1.heap.objs.size := Heap.lt_size e
    rcases List.mem_cons.mp z with z | z
    · rw [z] at lt
      exact Nat.not_lt.mpr hS lt
    · rw [List.mem_singleton.mp z] at lt
      exact Nat.not_lt.mpr hi lt) (hk b o e)
  have es : s' = { s1 with heap := s'.heap, toks := s'.toks } := by
    rw [Moved.eq_with hm, e2]
  rw [es]
  refine ⟨.ref S, upd H1 S (.lst xs.reverse), I1.laid (t' := s'.toks) k hS (show ObjOk X.prog X.w _ _ _ (.lst xs.reverse) from ⟨by rw [List.length_reverse]; exact hz, acc.toList, c', vals_rev rv ha, ?_⟩), rfl, q _ (I1.hok.fresh hS)⟩
  rw [Array.toArray_toList]
  exact hS'
theorem pe_listRev {e : Expr} {te : TE} {p p2 pos pos2 : Pos} (hc : X.calm = true) (hg : Gl X "list") (hm : X.mg "list" = none) (hg2 : Gl X "reversed") (hm2 : X.mg "reversed" = none) (he : PE X e te)
    (hs : starEach [e] X.env = (false, eval e X.env) :: starEach [] X.env := by rfl)
    (hs2 : starEach [.Call (.Name "reversed" p2) [e] [] pos2] X.env = (false, eval (.Call (.Name "reversed" p2) [e] [] pos2) X.env) :: starEach [] X.env := by rfl) :
    PE X (.Call (.Name "list" p) [.Call (.Name "reversed" p2) [e] [] pos2] [] pos) (tListRev X.K te) := by
  refine ⟨fun pins s σ H Q I h => ?_⟩
  refine Call_ (ld_blt I hg hm boot_list (PyProof.Rows.callWith_type1 (args_cons (Call_ (ld_blt I hg2 hm2 PyProof.Rows.boot_reversed (PyProof.Rows.callWith_type1 (args_cons (thn (he.run pins s σ H _ I h) fun u s1 ⟨v, H1, I1, r1, q1⟩ => args_nil ?_) hs) hs rfl))) hs2) hs2 rfl))
  obtain ⟨a, xs, ev, hq, q⟩ := q1
  subst ev
  obtain rfl : u = Value.ref a := r1
  rcases hq with hq | hq
  · obtain ⟨its, rv, p', hz⟩ := I1.list hq
    have hl := p'.isList
    obtain ⟨ol, hol, _⟩ := id hl
    have hne : a ≠ s1.heap.objs.size := Nat.ne_of_lt (Heap.lt_size hol)
    have hn : its.toArray.size ≤ sizeLine := by rw [List.size_toArray, ← rv.length]; exact hz
    refine call_reversed_list hl (args_nil ?_)
    have W := (Walks.listRev (prog := X.prog) (w := X.w) (A := X.A.in1.in1) (I1.ok.hd hc) s1.heap.objs.size a hne its.toArray).toS
    have hsz : (s1.heap.push (revObj a ((its.toArray.size : Int) - 1))).objs.size = s1.heap.objs.size + 1 := by simp [Heap.push]
    refine call_list_lri (s := { s1 with heap := s1.heap.push (revObj a ((its.toArray.size : Int) - 1)) }) W (fun i s st => st.2.1.typeIs) ⟨Nat.zero_le _, ⟨_, Heap.get?_push_size _ rfl, rfl, by simp [revObj]⟩, hl.push _⟩ (fun b hb => ?_) (by simp) (fun s' acc' c' hmv hS' hacc => ?_) hn
    · have lt : a < s1.heap.objs.size := Heap.lt_size hol
      show b < (s1.heap.push _).objs.size
      rw [hsz]
      rcases List.mem_cons.mp hb with z | z
      · rw [z]; exact Nat.lt_succ_self _
      · rw [List.mem_singleton.mp z]; exact Nat.lt_succ_of_lt lt
    · refine listRev_end (s2 := { s1 with heap := (s1.heap.push (revObj a ((its.toArray.size : Int) - 1))).push { cls := .type "list", data := .seq #[] } }) (it := s1.heap.objs.size) I1 rv hz (Nat.le_refl _) ?_ (fun b o e => Heap.get?_push_of_some _ (Heap.get?_push_of_some _ e)) rfl hmv hS' hacc q
      show s1.heap.objs.size ≤ (s1.heap.push _).objs.size
      rw [hsz]; omega
  · obtain ⟨its, rv, p', hz⟩ := I1.tuple hq
    have hl := rv.length
    have hn := line63
    obtain ⟨ol, hol, _⟩ := id p'
    have hne : a ≠ s1.heap.objs.size := Nat.ne_of_lt (Heap.lt_size hol)
    have hn2 : its.toArray.size ≤ sizeLine := by rw [List.size_toArray, ← rv.length]; exact hz
    refine call_reversed_tup p' (fun A E Q k => PyProof.Rows.len_tuple p' (by simp only [List.size_toArray] <;> omega) k) (args_nil ?_)
    have W := (Walks.rt (prog := X.prog) (w := X.w) (A := X.A.in1.in1) (I1.ok.hd hc) s1.heap.objs.size a hne its.toArray hn2).toS
    have hsz : (s1.heap.push (rtObj a ((its.toArray.size : Int) - 1))).objs.size = s1.heap.objs.size + 1 := by simp [Heap.push]
    have pt : IsTup (s1.heap.push (rtObj a ((its.toArray.size : Int) - 1))) a its.toArray := by
      obtain ⟨o, e, r⟩ := p'
      exact ⟨o, Heap.get?_push_of_some _ e, r⟩
    refine call_list_rt (s := { s1 with heap := s1.heap.push (rtObj a ((its.toArray.size : Int) - 1)), toks := s1.toks + 1 + 1 }) W (fun i s st => st.2.1.typeIs) hn2 (fun s st => ⟨by simpa using st.2.1, st.2.2⟩) ⟨Nat.zero_le _, ⟨_, Heap.get?_push_size _ rfl, rfl, by simp [rtObj]⟩, pt⟩ (fun b hb => ?_) (by simp) (fun s' acc' c' hmv hS' hacc => ?_) hn2
    · have lt : a < s1.heap.objs.size := Heap.lt_size hol
      show b < (s1.heap.push _).objs.size
      rw [hsz]
      rcases List.mem_cons.mp hb with z | z
      · rw [z]; exact Nat.lt_succ_self _
      · rw [List.mem_singleton.mp z]; exact Nat.lt_succ_of_lt lt
    · refine listRev_end (s2 := { s1 with heap := (s1.heap.push (rtObj a ((its.toArray.size : Int) - 1))).push { cls := .type "list", data := .seq #[] }, toks := s1.toks + 1 + 1 }) (it := s1.heap.objs.size) I1 rv hz (Nat.le_refl _) ?_ (fun b o e => Heap.get?_push_of_some _ (Heap.get?_push_of_some _ e)) rfl hmv hS' hacc q
      show s1.heap.objs.size ≤ (s1.heap.push _).objs.size
      rw [hsz]; omega
end
end RT

/-! Dat9 -/
set_option linter.all false
set_option maxRecDepth 100000
set_option maxHeartbeats 1000000
/-! Dat9: what loops and comprehensions walk. -/
namespace Dat
open PySem PySem.Spec L2 PyProof.Rows

/-- the iterator J yields these data, whatever the store has become -/
def ItOf (K : PySem.W.Frag) (T : List (Addr × Str)) (J : It) (ρ0 : List Addr) (H0 : Hp) (I : Items) : Prop := ∀ (i : Nat) (ρ : List Addr) (H : Hp) (m : Mem), Ext ρ0 H0 ρ H → Sto K T ρ H m → chkW I.2 m →
  (∀ d, I.1[i]? = some d → J.go i H ∧ ∀ x H', J.yld i H x H' → Ext ρ H ρ H' ∧ Sto K T ρ H' m ∧ RelD K ρ H' d x) ∧ (I.1.length ≤ i → J.stop i H)
def tI (K : PySem.W.Frag) (T : List (Addr × Str)) (C : Ctl) (W : WX) (e : II) : TI := fun σ H R => ∃ ρ m env, Sto K T ρ H m ∧ REnv K ρ H env σ ∧
  Then K T ρ H (evalI e C env m) (fun I _ ρ' H' => ∀ J, ItOf K T J ρ' H' I → R J H') (exW K W σ)
theorem PI.imp {X : Cx} {tg e : Expr} {t t' : TI} (h : PI X tg e t) (i : ∀ σ H Q, t' σ H Q → t σ H Q) : PI X tg e t' := ⟨fun pins s σ H Q I q => h.run pins s σ H Q I (i σ H Q q)⟩
section
variable {X : Cx} {T : List (Addr × Str)} {C : Ctl} {W : WX} {c : Ctx} {Pg : Prog} {lv : Nat} {K : PySem.W.Frag} {ρ ρ0 : List Addr} {H H0 : Hp} {m m0 : Mem}
/-- a walk over a list or a tuple, chosen when it is there -/
theorem pi_lt {tg l : Expr} {tl : TE} (hl : PE X l tl) : PI X tg l (fun σ H R => tl σ H fun x H1 => ∃ a, x = .ref a ∧ (((∃ xs, SqL X.K H1 a xs) ∧ R (Itl X.K a) H1) ∨ ((∃ xs, SqT X.K H1 a xs) ∧ R (Itt X.K a) H1))) := by
  refine ⟨fun pins s σ H R I h => ?_⟩
  refine thn (hl.run pins s σ H _ I h) fun v s1 ⟨x, H1, I1, r1, q1⟩ => ?_
  obtain ⟨a, e, q⟩ := q1
  subst e
  cases r1
  rcases q with ⟨⟨xs, hq⟩, q⟩ | ⟨⟨xs, hq⟩, q⟩
  · obtain ⟨its, rv, p, hz⟩ := I1.list hq
    refine wpAny_pyIter_list p.isList ?_
    refine ⟨s1.heap.objs.size, [s1.heap.objs.size], _, _, H1, rfl, I1.kept (t' := s1.toks) fun b o e => Heap.get?_push_of_some _ e, turn_list a _, ⟨_, Heap.get?_push_size _ rfl, rfl, rfl⟩, fun b hb => ?_, q⟩
    have e : b = s1.heap.objs.size := by simpa using hb
    subst e
    exact I1.fpOk (Nat.le_refl _) (I1.hok.fresh (Nat.le_refl _))
  · obtain ⟨its, rv, p, hz⟩ := I1.tuple hq
    refine wpAny_pyIter_tuple (show s1.heap.IsTuple a its.toArray from p) ?_
    refine ⟨s1.heap.objs.size, [s1.heap.objs.size], _, _, H1, rfl, I1.kept (t' := s1.toks) fun b o e => Heap.get?_push_of_some _ e, turn_tuple a _, ⟨_, Heap.get?_push_size _ rfl, rfl, rfl⟩, fun b hb => ?_, q⟩
    have e : b = s1.heap.objs.size := by simpa using hb
    subst e
    exact I1.fpOk (Nat.le_refl _) (I1.hok.fresh (Nat.le_refl _))
/-- which objects a datum that can be walked is -/
inductive Wk (K : PySem.W.Frag) (T : List (Addr × Str)) (ρ : List Addr) (H : Hp) (I : Items) (a : Addr) : Prop
  | tup (vs : List V) (h : SqT K H a vs) (r : RelDs K ρ H I.1 vs) (o : I.2 = none)
  | fro (vs : List V) (h : SqF K H a vs) (r : RelDs K ρ H I.1 vs) (o : I.2 = none)
  | ref (i : Nat) (h : ρ[i]? = some a) (o : I.2 = some (i, I.1))
theorem seqW_wk {d : D} {x : V} {ok : Items → Mem → List Addr → Hp → Prop} {ex : Str → Option D → Mem → List Addr → Hp → Prop} (r : RelD K ρ H d x) (h : Then K T ρ H (seqW d m) ok ex) : ∃ a I, x = .ref a ∧ Wk K T ρ H I a ∧ seqW d m = .ok I m ∧ (∀ i, I.2 = some (i, I.1) → m[i]? = some (.lst I.1)) := by
  cases r with
  | tup h1 h2 => exact ⟨_, (_, none), rfl, .tup _ h1 h2 rfl, rfl, fun _ z => by cases z⟩
  | fro h1 h2 => exact ⟨_, (_, none), rfl, .fro _ h1 h2 rfl, rfl, fun _ z => by cases z⟩
  | @ref i a e =>
    unfold seqW at h
    simp only at h
    split at h
    · rename_i l hm
      refine ⟨_, (l, some (i, l)), rfl, .ref i e rfl, ?_, fun j z => ?_⟩
      · unfold seqW
        simp only
        rw [hm]
      · cases z
        exact hm
    · exact (show False from h).elim
  | _ => exact (show False from h).elim
theorem SqF.sqL {a : Addr} {vs : List V} (h : SqF K H a vs) : SqL K H a vs := by
  rcases h with ⟨o, h1⟩ | h1
  · exact .inl (.inr ⟨o, h1⟩)
  · exact .inr h1
/-- a list at all later times | a tuple -/
def Lat (K : PySem.W.Frag) (T : List (Addr × Str)) (ρ0 : List Addr) (H0 : Hp) (I : Items) (Sq : Hp → List V → Prop) : Prop :=
  ∀ ρ H m, Ext ρ0 H0 ρ H → Sto K T ρ H m → chkW I.2 m → ∃ vs, RelDs K ρ H I.1 vs ∧ Sq H vs
theorem Wk.cases {I : Items} {a : Addr} (w : Wk K T ρ0 H0 I a) (S0 : Sto K T ρ0 H0 m0) (hm : ∀ i, I.2 = some (i, I.1) → m0[i]? = some (.lst I.1)) :
    ((∃ vs, RelDs K ρ0 H0 I.1 vs ∧ SqL K H0 a vs) ∧ Lat K T ρ0 H0 I (fun H vs => SqL K H a vs)) ∨ ((∃ vs, RelDs K ρ0 H0 I.1 vs ∧ SqT K H0 a vs) ∧ Lat K T ρ0 H0 I (fun H vs => SqT K H a vs)) := by
  cases w with
  | tup vs h r o => exact .inr ⟨⟨vs, r, h⟩, fun ρ H m E S _ => ⟨vs, r.mono S0 E, S0.sqT E h⟩⟩
  | fro vs h r o => exact .inl ⟨⟨vs, r, h.sqL⟩, fun ρ H m E S _ => ⟨vs, r.mono S0 E, (S0.sqF E h).sqL⟩⟩
  | ref i h o =>
    refine .inl ⟨?_, fun ρ H m E S hc => ?_⟩
    · obtain ⟨vs, h1, r⟩ := lst_at S0 h (hm i o)
      exact ⟨vs, r, SqL.of h1⟩
    · rw [o] at hc
      obtain ⟨vs, h1, r⟩ := lst_at S (E.get h) hc
      exact ⟨vs, r, SqL.of h1⟩
theorem it_list {I : Items} {a : Addr} (L : Lat K T ρ0 H0 I fun H vs => SqL K H a vs) : ItOf K T (Itl K a) ρ0 H0 I := fun i ρ H m E S hc => by
  obtain ⟨vs, r, q⟩ := L ρ H m E S hc
  refine ⟨fun d hd => ?_, fun hl => ⟨vs, q, by rw [← r.length]; exact hl⟩⟩
  obtain ⟨v, hv, rv⟩ := r.get hd
  refine ⟨⟨vs, v, q, hv⟩, fun x H' y => ?_⟩
  obtain ⟨rfl, y⟩ := y
  have e := y vs q
  rw [hv] at e
  cases e
  exact ⟨Ext.refl _ _, S, rv⟩
theorem it_tup {I : Items} {a : Addr} (L : Lat K T ρ0 H0 I fun H vs => SqT K H a vs) : ItOf K T (Itt K a) ρ0 H0 I := fun i ρ H m E S hc => by
  obtain ⟨vs, r, q⟩ := L ρ H m E S hc
  refine ⟨fun d hd => ?_, fun hl => ⟨vs, q, by rw [← r.length]; exact hl⟩⟩
  obtain ⟨v, hv, rv⟩ := r.get hd
  refine ⟨⟨vs, v, q, hv⟩, fun x H' y => ?_⟩
  obtain ⟨rfl, y⟩ := y
  have e := y vs q
  rw [hv] at e
  cases e
  exact ⟨Ext.refl _ _, S, rv⟩
theorem rev_get {α : Type} {l : List α} {i : Nat} {d : α} (h : l.reverse[i]? = some d) : i < l.length ∧ l[l.length - 1 - i]? = some d := by
  obtain ⟨hi, e⟩ := List.getElem?_eq_some_iff.mp h
  have hi : i < l.length := by simpa using hi
  refine ⟨hi, ?_⟩
  rw [List.getElem?_reverse hi] at h
  exact h
theorem it_revL {I : Items} {a : Addr} {n : Nat} (hn : n = I.1.length) (L : Lat K T ρ0 H0 I fun H vs => SqL K H a vs) : ItOf K T (Itv K a n) ρ0 H0 (I.1.reverse, I.2) := fun i ρ H m E S hc => by
  obtain ⟨vs, r, q⟩ := L ρ H m E S hc
  refine ⟨fun d hd => ?_, fun hl => by show n ≤ i; simp at hl; omega⟩
  obtain ⟨hi, hd⟩ := rev_get hd
  obtain ⟨v, hv, rv⟩ := r.get hd
  rw [← hn] at hi hv
  refine ⟨⟨hi, vs, v, q, hv⟩, fun x H' y => ?_⟩
  obtain ⟨rfl, y⟩ := y
  have e := y vs q
  rw [hv] at e
  cases e
  exact ⟨Ext.refl _ _, S, rv⟩
theorem it_revT {I : Items} {a : Addr} {n : Nat} (hn : n = I.1.length) (L : Lat K T ρ0 H0 I fun H vs => SqT K H a vs) : ItOf K T (RT.ItvT K a n) ρ0 H0 (I.1.reverse, I.2) := fun i ρ H m E S hc => by
  obtain ⟨vs, r, q⟩ := L ρ H m E S hc
  refine ⟨fun d hd => ?_, fun hl => by show n ≤ i; simp at hl; omega⟩
  obtain ⟨hi, hd⟩ := rev_get hd
  obtain ⟨v, hv, rv⟩ := r.get hd
  rw [← hn] at hi hv
  refine ⟨⟨hi, vs, v, q, hv⟩, fun x H' y => ?_⟩
  obtain ⟨rfl, y⟩ := y
  have e := y vs q
  rw [hv] at e
  cases e
  exact ⟨Ext.refl _ _, S, rv⟩
theorem it_enumL {I : Items} {a : Addr} (L : Lat K T ρ0 H0 I fun H vs => SqL K H a vs) : ItOf K T (Ite K a) ρ0 H0 ((I.1.zipIdx).map (fun p => .tup [.int (p.2 : Nat), p.1]), I.2) := fun i ρ H m E S hc => by
  obtain ⟨vs, r, q⟩ := L ρ H m E S hc
  refine ⟨fun d hd => ?_, fun hl => ⟨vs, q, by simp at hl; rw [← r.length]; exact hl⟩⟩
  simp only [List.getElem?_map, List.getElem?_zipIdx, Option.map_map, Option.map_eq_some_iff] at hd
  obtain ⟨d0, hd, rfl⟩ := hd
  obtain ⟨v, hv, rv⟩ := r.get hd
  refine ⟨⟨vs, v, q, hv⟩, fun x H' y => ?_⟩
  obtain ⟨p, w, rfl, np, rfl, y⟩ := y
  have e := y vs q
  rw [hv] at e
  cases e
  obtain ⟨E1, S1⟩ := S.aside (o := .tup [.int (i : Nat), v]) np
  refine ⟨E1, S1, .tup (.inl (.inl upd_same)) (.cons ?_ (.cons (rv.mono S E1) .nil))⟩
  simp
  exact .int _
theorem it_enumT {I : Items} {a : Addr} (L : Lat K T ρ0 H0 I fun H vs => SqT K H a vs) : ItOf K T (IteT K a) ρ0 H0 ((I.1.zipIdx).map (fun p => .tup [.int (p.2 : Nat), p.1]), I.2) := fun i ρ H m E S hc => by
  obtain ⟨vs, r, q⟩ := L ρ H m E S hc
  refine ⟨fun d hd => ?_, fun hl => ⟨vs, q, by simp at hl; rw [← r.length]; exact hl⟩⟩
  simp only [List.getElem?_map, List.getElem?_zipIdx, Option.map_map, Option.map_eq_some_iff] at hd
  obtain ⟨d0, hd, rfl⟩ := hd
  obtain ⟨v, hv, rv⟩ := r.get hd
  refine ⟨⟨vs, v, q, hv⟩, fun x H' y => ?_⟩
  obtain ⟨p, w, rfl, np, rfl, y⟩ := y
  have e := y vs q
  rw [hv] at e
  cases e
  obtain ⟨E1, S1⟩ := S.aside (o := .tup [.int (i : Nat), v]) np
  refine ⟨E1, S1, .tup (.inl (.inl upd_same)) (.cons ?_ (.cons (rv.mono S E1) .nil))⟩
  simp
  exact .int _
theorem it_rng {a : Int} {n : Nat} : ItOf K T (Itr a n) ρ0 H0 (rngL a n, none) := fun i ρ H m E S hc => by
  refine ⟨fun d hd => ?_, fun hl => by show n ≤ i; simpa [rngL] using hl⟩
  simp only [rngL, List.getElem?_map, Option.map_eq_some_iff] at hd
  obtain ⟨j, hj, rfl⟩ := hd
  obtain ⟨hi, e⟩ := List.getElem?_eq_some_iff.mp hj
  simp at hi e
  subst e
  refine ⟨hi, fun x H' y => ?_⟩
  obtain ⟨rfl, rfl⟩ := y
  exact ⟨Ext.refl _ _, S, .int _⟩
theorem zip_get {α β : Type} {l : List α} {k : List β} {i : Nat} {p : α × β} (h : (l.zip k)[i]? = some p) : l[i]? = some p.1 ∧ k[i]? = some p.2 := by
  rw [List.getElem?_zip_eq_some] at h
  exact h
theorem it_zipT {l k : List D} {a b : Addr} {vs ws : List V} (S0 : Sto K T ρ0 H0 m0) (ha : SqT K H0 a vs) (hb : SqT K H0 b ws) (ra : RelDs K ρ0 H0 l vs) (rb : RelDs K ρ0 H0 k ws) :
    ItOf K T (RZ.ItzT K a b) ρ0 H0 ((l.zip k).map (fun p => .tup [p.1, p.2]), none) := fun i ρ H m E S hc => by
  have qa := S0.sqT E ha
  have qb := S0.sqT E hb
  have ra' := ra.mono S0 E
  have rb' := rb.mono S0 E
  refine ⟨fun d hd => ?_, fun hl => ⟨vs, ws, qa, qb, ?_⟩⟩
  · simp only [List.getElem?_map, Option.map_eq_some_iff] at hd
    obtain ⟨p, hp, rfl⟩ := hd
    obtain ⟨h1, h2⟩ := zip_get hp
    obtain ⟨v, hv, rv⟩ := ra'.get h1
    obtain ⟨w, hw, rw'⟩ := rb'.get h2
    refine ⟨⟨vs, ws, v, w, qa, qb, hv, hw⟩, fun x H' y => ?_⟩
    obtain ⟨q, v2, w2, rfl, np, rfl, y1, y2⟩ := y
    have e1 := y1 vs qa
    have e2 := y2 ws qb
    rw [hv] at e1
    rw [hw] at e2
    cases e1
    cases e2
    obtain ⟨E1, S1⟩ := S.aside (o := .tup [v, w]) np
    exact ⟨E1, S1, .tup (.inl (.inl upd_same)) (.cons (rv.mono S E1) (.cons (rw'.mono S E1) .nil))⟩
  · simp at hl
    rw [← ra.length, ← rb.length]
    omega

/-! ### the forms -/
abbrev OkI (X : Cx) (T : List (Addr × Str)) (C : Ctl) (W : WX) (tg e : Expr) (ir : II) : Prop := PI X tg e (tI X.K T C W ir)
theorem ok_seq {tg e : Expr} {e' : IE} (h : OkE X T C W e e') : OkI X T C W tg e (.seq e') := by
  refine PI.imp (pi_lt h) fun σ H R ⟨ρ, m, env, S, RE, q⟩ => ?_
  unfold evalI at q
  refine ⟨ρ, m, env, S, RE, q.bind.imp (fun d m1 ρ1 H1 E1 S1 q1 v r => ?_) fun _ _ _ _ _ _ _ z => z⟩
  obtain ⟨a, I, rfl, w, e, hm⟩ := seqW_wk r q1
  rw [e] at q1
  refine ⟨a, rfl, ?_⟩
  rcases w.cases S1 hm with ⟨⟨vs, r, q⟩, L⟩ | ⟨⟨vs, r, q⟩, L⟩
  · exact .inl ⟨⟨vs, q⟩, q1 ρ1 H1 (Ext.refl _ _) S1 _ (it_list L)⟩
  · exact .inr ⟨⟨vs, q⟩, q1 ρ1 H1 (Ext.refl _ _) S1 _ (it_tup L)⟩
theorem ok_rev {tg e : Expr} {e' : IE} {p pos : Pos} (G : Good c C Pg lv T X W) (hg : c.isGl "reversed" = true) (pl : plainE e = true) (h : OkE X T C W e e') : OkI X T C W tg (.Call (.Name "reversed" p) [e] [] pos) (.rev e') := by
  refine PI.imp (RT.pi_revA (G.gl hg) (G.blt _ (by decide +kernel)) h (noStar pl _ _)) fun σ H R ⟨ρ, m, env, S, RE, q⟩ => ?_
  unfold evalI at q
  refine ⟨ρ, m, env, S, RE, q.bind.imp (fun d m1 ρ1 H1 E1 S1 q1 v r => ?_) fun _ _ _ _ _ _ _ z => z⟩
  have q2 := q1.bind
  obtain ⟨a, I, rfl, w, e, hm⟩ := seqW_wk r q2
  rw [e] at q1
  rcases w.cases S1 hm with ⟨⟨vs, r, q⟩, L⟩ | ⟨⟨vs, r, q⟩, L⟩
  · exact ⟨a, vs, rfl, .inl ⟨q, q1 ρ1 H1 (Ext.refl _ _) S1 _ (it_revL r.length.symm L)⟩⟩
  · exact ⟨a, vs, rfl, .inr ⟨q, q1 ρ1 H1 (Ext.refl _ _) S1 _ (it_revT r.length.symm L)⟩⟩
theorem ok_rng1 {tg e : Expr} {e' : IE} {p pos : Pos} (G : Good c C Pg lv T X W) (hg : c.isGl "range" = true) (pl : plainE e = true) (h : OkE X T C W e e') : OkI X T C W tg (.Call (.Name "range" p) [e] [] pos) (.rng1 [e']) := by
  refine PI.imp (pi_range1 (G.gl hg) (G.blt _ (by decide +kernel)) (ok_cons pl h ok_nil) (noStar pl _ _)) fun σ H R ⟨ρ, m, env, S, RE, q⟩ => ?_
  unfold evalI at q
  refine seqA S RE q fun xs H1 ρ1 m1 ds E1 S1 R1 r1 q1 => ?_
  unfold rngD at q1
  split at q1
  · rename_i i j e
    cases e
    obtain ⟨v, rfl, r⟩ := rel1 r1
    cases r
    split at q1
    · rename_i hj
      refine ⟨j, rfl, hj.2.2.1, hj.2.2.2, ?_⟩
      have q2 := q1 ρ1 H1 (Ext.refl _ _) S1 (Itr 0 j.toNat)
      rw [Int.sub_zero] at q2
      exact q2 it_rng
    · exact (show False from q1).elim
  · exact (show False from q1).elim
theorem ok_rng2 {tg a b : Expr} {a' b' : IE} {p pos : Pos} (G : Good c C Pg lv T X W) (hg : c.isGl "range" = true) (pa : plainE a = true) (pb : plainE b = true) (ha : OkE X T C W a a') (hb : OkE X T C W b b') : OkI X T C W tg (.Call (.Name "range" p) [a, b] [] pos) (.rng [a', b']) := by
  refine PI.imp (pi_range2 (G.gl hg) (G.blt _ (by decide +kernel)) (ok_cons pa ha (ok_cons pb hb ok_nil)) (by rw [noStar pa, noStar pb] <;> rfl) (noStar pb _ _)) fun σ H R ⟨ρ, m, env, S, RE, q⟩ => ?_
  unfold evalI at q
  refine seqA S RE q fun xs H1 ρ1 m1 ds E1 S1 R1 r1 q1 => ?_
  unfold rngD at q1
  split at q1
  · obtain ⟨v, w, rfl, r, r'⟩ := rel2 r1
    cases r
    cases r'
    split at q1
    · rename_i hj
      exact ⟨_, _, rfl, hj, q1 ρ1 H1 (Ext.refl _ _) S1 _ it_rng⟩
    · exact (show False from q1).elim
  · exact (show False from q1).elim
theorem ok_zip {tgs : List Expr} {kk : Nat} {tpos : Pos} {a b : Expr} {a' b' : IE} {p pos : Pos} (G : Good c C Pg lv T X W) (hg : c.isGl "zip" = true) (pa : plainE a = true) (pb : plainE b = true) (ha : OkE X T C W a a') (hb : OkE X T C W b b') : OkI X T C W (.Tuple tgs kk tpos) (.Call (.Name "zip" p) [a, b] [] pos) (.zip [a', b']) := by
  refine PI.imp (RZ.pi_zipA (G.gl hg) (G.blt _ (by decide +kernel)) (ok_cons pa ha (ok_cons pb hb ok_nil)) (noStar pa _ _) (noStars (es := [b]) (by simp [plainEs, pb]))) fun σ H R ⟨ρ, m, env, S, RE, q⟩ => ?_
  unfold evalI at q
  refine seqA S RE q fun xs H1 ρ1 m1 ds E1 S1 R1 r1 q1 => ?_
  unfold zipD at q1
  split at q1
  · obtain ⟨v, w, rfl, r, r'⟩ := rel2 r1
    cases r with
    | tup h1 r =>
    cases r' with
    | tup h2 r' => exact ⟨_, _, _, _, rfl, .inr ⟨h1, h2, q1 ρ1 H1 (Ext.refl _ _) S1 _ (it_zipT S1 h1 h2 r r')⟩⟩
  · exact (show False from q1).elim
theorem ok_enm {tgs : List Expr} {kk : Nat} {tpos : Pos} {e : Expr} {e' : IE} {p pos : Pos} (G : Good c C Pg lv T X W) (hg : c.isGl "enumerate" = true) (pl : plainE e = true) (h : OkE X T C W e e') : OkI X T C W (.Tuple tgs kk tpos) (.Call (.Name "enumerate" p) [e] [] pos) (.enm e') := by
  refine PI.imp (pi_enumA (G.gl hg) (G.blt _ (by decide +kernel)) (ok_cons pl h ok_nil) (noStar pl _ _)) fun σ H R ⟨ρ, m, env, S, RE, q⟩ => ?_
  unfold evalI at q
  refine ⟨ρ, m, env, S, RE, ?_⟩
  have q0 : Then X.K T ρ H ((evalEs [e'] C env m).bind fun ds m1 => match ds with
    | [x] => (seqW x m1).bind fun I m2 => Res.ok ((I.1.zipIdx).map (fun p => D.tup [.int (p.2 : Nat), p.1]), I.2) m2
    | _ => .stuck) (fun I _ ρ' H' => ∀ J, ItOf X.K T J ρ' H' I → R J H') (exW X.K W σ) := by
    have ee : evalEs [e'] C env m = (evalE e' C env m).bind fun d m1 => .ok [d] m1 := by
      rw [evalEs]
      congr 1
    rw [ee]
    cases hr : evalE e' C env m with
    | stuck => rw [hr] at q; exact q
    | exn a b c => rw [hr] at q; exact q
    | ok d m1 => rw [hr] at q; exact q
  refine q0.bind.imp (fun ds m1 ρ1 H1 E1 S1 q1 vs r => ?_) fun _ _ _ _ _ _ _ z => z
  split at q1
  · obtain ⟨v, e1, r9⟩ := rel1 r
    subst e1
    have q2 := q1.bind
    obtain ⟨a, I, rfl, w, e, hm⟩ := seqW_wk r9 q2
    rw [e] at q1
    rcases w.cases S1 hm with ⟨⟨vs, r, q⟩, L⟩ | ⟨⟨vs, r, q⟩, L⟩
    · exact ⟨a, vs, rfl, .inl ⟨q, q1 ρ1 H1 (Ext.refl _ _) S1 _ (it_enumL L)⟩⟩
    · exact ⟨a, vs, rfl, .inr ⟨q, q1 ρ1 H1 (Ext.refl _ _) S1 _ (it_enumT L)⟩⟩
  · exact (show False from q1).elim
theorem ok_lrev {e : Expr} {e' : IE} {p p2 pos pos2 : Pos} (G : Good c C Pg lv T X W) (hg : c.isGl "list" = true) (hr : c.isGl "reversed" = true) (pl : plainE e = true) (h : OkE X T C W e e') :
    OkE X T C W (.Call (.Name "list" p) [.Call (.Name "reversed" p2) [e] [] pos2] [] pos) (.lrev e') := by
  refine PE.imp (RT.pe_listRev G.calm (G.gl hg) (G.blt _ (by decide +kernel)) (G.gl hr) (G.blt _ (by decide +kernel)) h (noStar pl _ _) rfl) fun σ H Q ⟨ρ, m, env, S, RE, q⟩ => ?_
  unfold evalE at q
  refine ⟨ρ, m, env, S, RE, q.bind.imp (fun d m1 ρ1 H1 E1 S1 q1 v r => ?_) fun _ _ _ _ _ _ _ z => z⟩
  split at q1
  · rename_i l hl
    obtain ⟨a, vs, rfl, hq, rr⟩ := seq_read S1 r hl
    exact ⟨a, vs, rfl, hq, fun q np => Then.alloc S1 q1 np rr.reverse⟩
  · exact (show False from q1).elim
end
end Dat

/-! Dat10 -/
set_option linter.all false
set_option maxRecDepth 100000
set_option maxHeartbeats 1000000
/-! Dat10: targets, comprehensions. -/
namespace Dat
open PySem PySem.Spec L2 PyProof.Rows

section
variable {X : Cx} {T : List (Addr × Str)} {C : Ctl} {W : WX} {c : Ctx} {Pg : Prog} {lv : Nat}
/-- all but these slots as they were -/
def But (vs : List Nat) (σ σ' : L2.St) : Prop := σ'.length = σ.length ∧ ∀ i, i ∉ vs → σ'[i]? = σ[i]?
theorem But.refl (vs : List Nat) (σ : L2.St) : But vs σ σ := ⟨rfl, fun _ _ => rfl⟩
theorem But.trans {vs ws : List Nat} {σ σ1 σ2 : L2.St} (a : But vs σ σ1) (b : But ws σ1 σ2) : But (vs ++ ws) σ σ2 :=
  ⟨b.1.trans a.1, fun i h => (b.2 i fun z => h (List.mem_append_right _ z)).trans (a.2 i fun z => h (List.mem_append_left _ z))⟩
theorem But.sub {vs ws : List Nat} {σ σ1 : L2.St} (a : But vs σ σ1) (h : ∀ i ∈ vs, i ∈ ws) : But ws σ σ1 := ⟨a.1, fun i hi => a.2 i fun z => hi (h i z)⟩
theorem wipe_get {σ : L2.St} : ∀ {vs : List Nat} {i : Nat}, (L2.wipe σ vs)[i]? = if i ∈ vs ∧ i < σ.length then some none else σ[i]?
  | [], i => by simp [L2.wipe]
  | v :: vs, i => by
    unfold L2.wipe
    rw [List.getElem?_set, wipe_get, L2.wipe_length]
    by_cases h : v = i
    · subst h
      by_cases hl : v < σ.length
      · simp [hl]
      · simp [hl]
    · have h2 : ¬ i = v := fun e => h e.symm
      simp [h, h2]
theorem But.wipe {vs : List Nat} {σ σ' : L2.St} (b : But vs σ σ') : L2.wipe σ' vs = L2.wipe σ vs := by
  refine List.ext_getElem? fun i => ?_
  rw [wipe_get, wipe_get, b.1]
  by_cases h : i ∈ vs
  · by_cases hl : i < σ.length
    · simp [h, hl]
    · rw [if_neg (fun z => hl z.2), if_neg (fun z => hl z.2), List.getElem?_eq_none (by rw [b.1]; omega), List.getElem?_eq_none (by omega)]
  · rw [if_neg (fun z => h z.1), if_neg (fun z => h z.1)]
    exact b.2 i h
theorem wipe_wipe {vs : List Nat} {σ : L2.St} : L2.wipe (L2.wipe σ vs) vs = L2.wipe σ vs := by
  refine List.ext_getElem? fun i => ?_
  rw [wipe_get, wipe_get, L2.wipe_length]
  split
  · rfl
  · rfl
def gT (K : PySem.W.Frag) (T : List (Addr × Str)) (t : Tg) : TG := fun v σ H Q => ∃ ρ m env d env', Sto K T ρ H m ∧ REnv K ρ H env σ ∧ RelD K ρ H d v ∧ asgT m t d env = some env' ∧
  ∀ σ', REnv K ρ H env' σ' → But (tgVars t) σ σ' → Q σ' H
def gTs (K : PySem.W.Frag) (T : List (Addr × Str)) (t : List Tg) : TGs := fun v σ H Q => ∃ ρ m env d env', Sto K T ρ H m ∧ REnv K ρ H env σ ∧ RelDs K ρ H d v ∧ asgTs m t d env = some env' ∧
  ∀ σ', REnv K ρ H env' σ' → But (tgVarsL t) σ σ' → Q σ' H
theorem PG.imp {e : Expr} {t t' : TG} (h : PG X e t) (i : ∀ v σ H Q, t' v σ H Q → t v σ H Q) : PG X e t' := ⟨fun pins s σ H x u Q I r q => h.run pins s σ H x u Q I r (i x σ H Q q)⟩
theorem PGs.imp {e : List Expr} {t t' : TGs} (h : PGs X e t) (i : ∀ v σ H Q, t' v σ H Q → t v σ H Q) : PGs X e t' := ⟨fun pins s σ H x u Q I r q => h.run pins s σ H x u Q I r (i x σ H Q q)⟩
theorem pg_or {e : Expr} {t t' : TG} (h : PG X e t) (h' : PG X e t') : PG X e (fun v σ H Q => t v σ H Q ∨ t' v σ H Q) := ⟨fun pins s σ H x u Q I r q => q.elim (h.run pins s σ H x u Q I r) (h'.run pins s σ H x u Q I r)⟩
theorem cTg_plain {n : Nat} {e : Expr} {t : Tg} (h : cTg c n e = some t) : plainE e = true := by
  cases n with
  | zero => simp [cTg] at h
  | succ n => cases e <;> first | rfl | simp [cTg] at h
theorem asgEach_cons {e : Expr} {es : List Expr} {env : Env} (h : plainE e = true) : assignEach (e :: es) env = (false, assign e env) :: assignEach es env := by
  cases e <;> first | rfl | cases h
theorem asgEach_len {env : Env} : ∀ {es : List Expr}, plainEs es = true → (assignEach es env).length = es.length ∧ (assignEach es env).findIdx? (·.1) = none
  | [], _ => ⟨rfl, rfl⟩
  | e :: es, h => by
    have h2 := pa_two h
    obtain ⟨i1, i2⟩ := asgEach_len (env := env) h2.2
    rw [asgEach_cons h2.1]
    refine ⟨by simp [i1], ?_⟩
    rw [List.findIdx?_cons]
    simp [i2]
theorem ok_tgs {n : Nat} (G : Good c C Pg lv T X W) (IH : ∀ e t, cTg c n e = some t → PG X e (gT X.K T t)) : ∀ {es : List Expr} {ts : List Tg}, es.mapM (cTg c n) = some ts → PGs X es (gTs X.K T ts) ∧ plainEs es = true ∧ ts.length = es.length
  | [], ts, h => by
    simp only [List.mapM_nil] at h
    cases h
    refine ⟨PGs.imp pgs_nil fun v σ H Q ⟨ρ, m, env, d, env', S, R, r, e, q⟩ => ?_, rfl, rfl⟩
    cases r with
    | nil =>
      simp only [asgTs, Option.some.injEq] at e
      subst e
      exact ⟨rfl, q σ R (But.refl _ _)⟩
    | cons _ _ => simp [asgTs] at e
  | e :: es, ts, h => by
    simp only [List.mapM_cons, Option.pure_def, Option.bind_eq_bind, Option.bind_eq_some_iff, Option.some.injEq] at h
    obtain ⟨t, ht, ts', hts, rfl⟩ := h
    obtain ⟨h2, h3, h4⟩ := ok_tgs G IH hts
    have p := cTg_plain ht
    refine ⟨PGs.imp (pgs_cons (IH e t ht) h2 (by rw [asgEach_cons p] <;> rfl)) fun v σ H Q ⟨ρ, m, env, d, env', S, R, r, e, q⟩ => ?_, by simp [plainEs, p, h3], by simp [h4]⟩
    cases r with
    | nil => simp [asgTs] at e
    | cons r1 r2 =>
      simp only [asgTs, Option.bind_eq_some_iff] at e
      obtain ⟨env1, e1, e2⟩ := e
      refine ⟨_, _, rfl, ρ, m, env, _, env1, S, R, r1, e1, fun σ1 R1 b1 => ⟨ρ, m, env1, _, env', S, R1, r2, e2, fun σ2 R2 b2 => ?_⟩⟩
      exact q σ2 R2 (by simpa [tgVarsL] using b1.trans b2)
theorem ok_tg (G : Good c C Pg lv T X W) : ∀ (n : Nat) (e : Expr) (t : Tg), cTg c n e = some t → PG X e (gT X.K T t)
  | 0, e, t, h => by simp [cTg] at h
  | n + 1, e, t, h => by
    cases e with
    | Name x pos =>
      simp only [cTg] at h
      split at h
      · rename_i i hi
        split at h
        · rename_i hk
          cases h
          obtain ⟨h1, h2, h3⟩ := slot_ok hi
          have hloc : L2.Loc X.env.scope x := by
            rw [G.sc]
            rcases hk with z | z
            · exact .inl z
            · exact .inr z.1
          have hfn : X.fn x = true ∨ X.env.scope.names.lookup x = some .local := by
            rw [G.sc]
            rcases hk with z | z
            · exact .inr z
            · exact .inl (G.fn z.2 x)
          refine PG.imp (pg_name (i := i) G.nd (by rw [G.hN]; exact h1) hloc hfn) fun v σ H Q ⟨ρ, m, env, d, env', S, R, r, e, q⟩ => ?_
          simp only [asgT] at e
          split at e
          · cases e
            refine q _ (R.set r) ⟨by simp, fun j hj => ?_⟩
            rw [List.getElem?_set_ne]
            intro z
            exact hj (by simp [tgVars, z])
          · cases e
        · cases h
      · cases h
    | Tuple es k pos =>
      simp only [cTg, Option.map_eq_some_iff] at h
      obtain ⟨ts, hts, rfl⟩ := h
      obtain ⟨h2, h3, h4⟩ := ok_tgs G (fun e t h => ok_tg G n e t h) hts
      obtain ⟨l1, l2⟩ := asgEach_len (env := X.env) h3
      refine PG.imp (pg_or (pg_unl (n := es.length) G.calm h2 l1 l2) (pg_tup (n := es.length) G.calm h2 l1 l2)) fun v σ H Q ⟨ρ, m, env, d, env', S, R, r, e, q⟩ => ?_
      simp only [asgT] at e
      split at e
      · rename_i ds hds
        obtain ⟨a, vs, rfl, hq, r⟩ := seq_read S r hds
        have hl : ∀ {ts : List Tg} {ds : List D} {env env' : EnvD}, asgTs m ts ds env = some env' → ds.length = ts.length := by
          intro ts
          induction ts with
          | nil => intro ds env env' h; cases ds with
            | nil => rfl
            | cons _ _ => simp [asgTs] at h
          | cons t ts ih => intro ds env env' h; cases ds with
            | nil => simp [asgTs] at h
            | cons d ds =>
              simp only [asgTs, Option.bind_eq_some_iff] at h
              obtain ⟨e1, _, h⟩ := h
              simp [ih h]
        have hn : vs.length = es.length := by rw [← r.length, hl e, h4]
        rcases hq with hq | hq
        · exact .inl ⟨_, _, rfl, hq, hn, ρ, m, env, _, env', S, R, r, e, q⟩
        · exact .inr ⟨_, _, rfl, hq, hn, ρ, m, env, _, env', S, R, r, e, q⟩
      · cases e
    | _ => simp [cTg] at h
end
end Dat

/-! Dat11 -/
set_option linter.all false
set_option maxRecDepth 100000
set_option maxHeartbeats 1000000
/-! Dat11: comprehensions. -/
namespace Dat
open PySem PySem.Spec L2 PyProof.Rows

section
variable {K : PySem.W.Frag} {T : List (Addr × Str)} {ρ ρ' : List Addr} {H H' : Hp} {m : Mem}
/-- what does not change is read as before -/
theorem RelD.read {d : D} {v : V} (k : ∀ a o, H a = some o → cellish o = false → H' a = some o) (h : RelD K ρ H d v) : RelD K ρ H' d v := by
  have t : ∀ {a : Addr} {vs : List V}, SqT K H a vs → SqT K H' a vs := fun {a vs} h => by
    rcases h with (h | ⟨o, h⟩) | h
    · exact .inl (.inl (k _ _ h rfl))
    · exact .inl (.inr ⟨o, k _ _ h rfl⟩)
    · exact .inr h
  have f : ∀ {a : Addr} {vs : List V}, SqF K H a vs → SqF K H' a vs := fun {a vs} h => by
    rcases h with ⟨o, h⟩ | h
    · exact .inl ⟨o, k _ _ h rfl⟩
    · exact .inr h
  exact RelD.rec (motive_1 := fun d v _ => RelD K ρ H' d v) (motive_2 := fun d v _ => RelDs K ρ H' d v) .non .bl .int .str (fun h _ r => .tup (t h) r) (fun h _ r => .fro (f h) r) .ref .nil (fun _ _ a b => .cons a b) h
theorem RelDs.read {d : List D} {v : List V} (k : ∀ a o, H a = some o → cellish o = false → H' a = some o) (h : RelDs K ρ H d v) : RelDs K ρ H' d v := by
  match d, v, h with
  | _, _, .nil => exact .nil
  | _, _, .cons a b => exact .cons (a.read k) (b.read k)
theorem RelF.read {d : List (Str × D)} {v : List (Str × V)} (k : ∀ a o, H a = some o → cellish o = false → H' a = some o) (h : RelF K ρ H d v) : RelF K ρ H' d v := by
  induction h with
  | nil => exact .nil
  | cons a _ b => exact .cons (a.read k) b
theorem RelKV.read {d : List (Key × D)} {v : List (Key × V)} (k : ∀ a o, H a = some o → cellish o = false → H' a = some o) (h : RelKV K ρ H d v) : RelKV K ρ H' d v := by
  induction h with
  | nil => exact .nil
  | cons a _ b => exact .cons (a.read k) b
/-- a list beside the store is written -/
theorem Sto.side (S : Sto K T ρ H m) {p : Addr} {xs ys : List V} (hp : H p = some (.lst xs)) (n : p ∉ ρ) : Sto K T ρ (upd H p (.lst ys)) m := by
  have k : ∀ a o, H a = some o → cellish o = false → upd H p (.lst ys) a = some o := fun a o h c => by
    rw [upd_ne]
    · exact h
    · rintro rfl
      rw [hp] at h
      cases h
      cases c
  refine ⟨S.len, S.nd, fun i c h => ?_, tabs_ext S.tabs k⟩
  obtain ⟨a, e, r⟩ := S.cell i c h
  have ne : a ≠ p := fun z => n (z ▸ List.mem_of_getElem? e)
  refine ⟨a, e, ?_⟩
  cases c with
  | lst l => obtain ⟨vs, h, r⟩ := r; exact ⟨vs, by rw [upd_ne ne]; exact h, r.read k⟩
  | ins c fs => obtain ⟨dx, vs, h, r⟩ := r; exact ⟨dx, vs, by rw [upd_ne ne]; exact h, r.read k⟩
  | dct l => obtain ⟨vs, h, r⟩ := r; exact ⟨vs, by rw [upd_ne ne]; exact h, r.read k⟩
theorem Ext.side (E : Ext ρ H ρ' H') {p : Addr} {o : HO} (np : H p = none) : Ext ρ H ρ' (upd H' p o) := ⟨E.pre, fun a u h n t => by
  rw [upd_ne (ne_of_none h np)]
  exact E.keep a u h n t, E.new⟩
end
theorem compL_ok {o : Option (Nat × List D)} {body : D → Mem → Res (Option D)} (hb : ∀ d m c p m', body d m ≠ .exn c p m') : ∀ {ds : List D} {m : Mem}, compL o body ds m ≠ .stuck → ∃ l m', compL o body ds m = .ok l m'
  | [], m, h => by
    unfold compL at h ⊢
    split at h
    · exact ⟨[], m, by rw [if_pos (by assumption)]⟩
    · exact absurd rfl h
  | d :: ds, m, h => by
    unfold compL at h ⊢
    split at h
    · rename_i hc
      rw [if_pos hc]
      cases e : body d m with
      | stuck => rw [e] at h; exact absurd rfl h
      | exn c p m' => exact absurd e (hb _ _ _ _ _)
      | ok r m1 =>
        rw [e] at h
        simp only [Res.bind] at h ⊢
        cases e2 : compL o body ds m1 with
        | stuck => rw [e2] at h; exact absurd rfl h
        | exn c p m' =>
          exfalso
          have := compL_ok hb (ds := ds) (m := m1) (o := o) (by rw [e2]; intro z; cases z)
          obtain ⟨l, m2, z⟩ := this
          rw [e2] at z
          cases z
        | ok l m2 => exact ⟨_, _, rfl⟩
    · exact absurd rfl h
section
variable {X : Cx} {T : List (Addr × Str)} {C : Ctl} {W : WX} {c : Ctx} {Pg : Prog} {lv : Nat}
/-- nothing leaves a comprehension -/
abbrev W0 : WX := fun _ _ _ _ => False
theorem Good.blk (G : Good c C Pg lv T X W) (scope : Scope) (s : Shared) (H : Hp) (Ca : Addr) (cl : List (Str × Addr)) (fp : List Addr) :
    Good { c with sc := relS scope c.sc, blk := true, lam := false } C Pg lv T (X.blk s H scope (compEnvC scope cl Ca X.env) fp) W0 where
  call := G.call
  lam := fun h => by cases h
  calm := G.calm
  nd := G.nd
  hN := G.hN
  sc := by
    show relS scope X.env.scope = _
    rw [G.sc]
  room := G.room
  tk := takes_none5
  po := PassesOwn.never
  fn := fun h => by cases h
  two := G.two
  fns := fun k hk => ⟨(G.fns k hk).fn, (G.fns k hk).np⟩
  glos := G.glos
  blt := G.blt
  told := G.told
  exm := G.exm
  exs := G.exs
theorem PTs.imp {ifs : List Expr} {t t' : TT} (h : PTs X ifs t) (i : ∀ σ H Q, t' σ H Q → t σ H Q) : PTs X ifs t' := ⟨fun pins s σ H Q I q => h.run pins s σ H Q I (i σ H Q q)⟩
theorem ok_yes : PTs X [] (tT X.K T C W (.con (.bl true))) := by
  refine PTs.imp pts_nil fun σ H Q ⟨ρ, m, env, S, R, q⟩ => ?_
  unfold evalE at q
  exact tT_done S q
/-- one turn of a comprehension, as data -/
noncomputable def compB (C : Ctl) (tg : Tg) (c e : IE) (own : List Nat) (env : EnvD) : D → Mem → Res (Option D) := fun d m2 =>
  match asgT m2 tg d (wipeE env own) with
  | some env2 => (match evalE c C env2 m2 with
    | .ok (.bl true) m3 => (match evalE e C env2 m3 with
      | .ok x m4 => .ok (some x) m4
      | _ => .stuck)
    | .ok (.bl false) m3 => .ok none m3
    | _ => .stuck)
  | none => .stuck
theorem compB_noex {tg : Tg} {cc e : IE} {own : List Nat} {env : EnvD} : ∀ d m k p m', compB C tg cc e own env d m ≠ .exn k p m' := by
  intro d m k p m' h
  unfold compB at h
  repeat' split at h
  all_goals cases h
theorem comp_tlc {scope : Scope} {tg' : Tg} {it' : II} {t' e' : IE} (hv : (tgVars tg').all (fun i => decide (i ∈ ownI c.N scope)) = true) {σ : L2.St} {H : Hp} {Q : VK} (h : tE X.K T C W (.comp tg' it' t' e' (ownI c.N scope)) σ H Q) :
    tLc (tI X.K T C W it') (gT X.K T tg') (tT X.K T C W0 t') (tE X.K T C W0 e') ((ownOf c.N scope).map (·.2)) σ H Q := by
  have hv' : ∀ i ∈ tgVars tg', i ∈ ownI c.N scope := fun i h => of_decide_eq_true (List.all_eq_true.mp hv i h)
  obtain ⟨ρ, m, env, S, R, q⟩ := h
  unfold evalE at q
  refine ⟨ρ, m, env, S, R, q.bind.imp (fun I m1 ρ1 H1 E1 S1 q1 J hJ D hD => ?_) fun _ _ _ _ _ _ _ z => z⟩
  have R1 := R.mono S E1
  have q1 : Then X.K T ρ1 H1 ((compL I.2 (compB C tg' t' e' (ownI c.N scope) env) I.1 m1).bind fun l m2 => if l.length ≤ sizeLine then .ok (.ref m2.length) (m2 ++ [.lst l]) else .stuck)
      (fun d _ ρ' H' => ∀ v, RelD X.K ρ' H' d v → Q v H') (exW X.K W σ) := q1
  let Inv (i : Nat) (Hc : Hp) : Prop := ∃ ρc mc accD accV, Ext ρ1 H1 ρc Hc ∧ Sto X.K T ρc Hc mc ∧ Hc D = some (.lst accV) ∧ RelDs X.K ρc Hc accD accV ∧ D ∉ ρc ∧
    Then X.K T ρ1 H1 ((compL I.2 (compB C tg' t' e' (ownI c.N scope) env) (I.1.drop i) mc).bind fun l m2 => if (accD ++ l).length ≤ sizeLine then .ok (.ref m2.length) (m2 ++ [.lst (accD ++ l)]) else .stuck)
      (fun d _ ρ' H' => ∀ v, RelD X.K ρ' H' d v → Q v H') (exW X.K W σ)
  refine ⟨fun i k Hc => k = I.1.length - i ∧ i ≤ I.1.length ∧ Inv i Hc, ⟨I.1.length, by simp, Nat.zero_le _, ?_⟩, ?_⟩
  · obtain ⟨E2, S2⟩ := S1.aside (o := .lst []) hD
    refine ⟨ρ1, m1, [], [], E2, S2, upd_same, .nil, fun z => ?_, by simpa using q1⟩
    obtain ⟨o, h, _⟩ := S1.at_ z
    rw [hD] at h
    cases h
  · rintro i k Hc ⟨rfl, hi, ρc, mc, accD, accV, Ec, Sc, hDc, ra, nD, qc⟩
    by_cases hlt : i < I.1.length
    · refine .inr ?_
      have hd : I.1[i]? = some I.1[i] := List.getElem?_eq_getElem hlt
      rw [List.drop_eq_getElem_cons hlt] at qc
      -- the list is there, the body's turn
      have hne := qc.ne
      obtain ⟨l, m9, el⟩ := compL_ok (compB_noex (C := C) (tg := tg') (cc := t') (e := e') (own := ownI c.N scope) (env := env)) (o := I.2) (ds := I.1[i] :: I.1.drop (i + 1)) (m := mc) (fun z => hne (by rw [z] <;> rfl))
      have el0 := el
      unfold compL at el
      split at el
      case isFalse => cases el
      rename_i hc
      obtain ⟨hgo, hyld⟩ := (hJ i ρc Hc mc Ec Sc hc).1 _ hd
      refine ⟨hgo, fun H' => I.1.length - (i + 1) = I.1.length - (i + 1) ∧ i + 1 ≤ I.1.length ∧ Inv (i + 1) H', fun H' z => ⟨I.1.length - (i + 1), by omega, z⟩, fun x H2 y => ?_⟩
      obtain ⟨E2, S2, rx⟩ := hyld x H2 y
      have hD2 : H2 D = some (.lst accV) := E2.keep D _ hDc nD fun _ z => nomatch z
      cases eb : compB C tg' t' e' (ownI c.N scope) env I.1[i] mc with
      | stuck => rw [eb] at el; cases el
      | exn _ _ _ => exact absurd eb (compB_noex _ _ _ _ _)
      | ok r m3 =>
      rw [eb] at el
      simp only [Res.bind] at el
      have eb0 := eb
      unfold compB at eb
      split at eb
      case h_2 => cases eb
      rename_i env2 ea
      have E12 := Ec.trans E2
      refine ⟨ρc, mc, wipeE env (ownI c.N scope), I.1[i], env2, S2, (R1.mono S1 E12).wipe _, rx, ea, fun σ2 R2 b2 => ?_⟩
      have hw : L2.wipe σ2 (ownI c.N scope) = L2.wipe σ (ownI c.N scope) := (b2.sub hv').wipe.trans (wipe_wipe (vs := ownI c.N scope) (σ := σ))
      refine ⟨hw, ρc, mc, env2, S2, R2, ?_⟩
      -- what is left behind this turn
      have next : ∀ (accD' : List Dat.D) (accV' : List V) (ρ4 : List Addr) (H4 : Hp), Ext ρ1 H1 ρ4 H4 → Sto X.K T ρ4 H4 m3 → H4 D = some (.lst accV') → RelDs X.K ρ4 H4 accD' accV' → D ∉ ρ4 →
          (∀ l', accD ++ optC r l' = accD' ++ l') → I.1.length - (i + 1) = I.1.length - (i + 1) ∧ i + 1 ≤ I.1.length ∧ Inv (i + 1) H4 := fun accD' accV' ρ4 H4 E4 S4 h4 r4 n4 hl => by
        refine ⟨rfl, hlt, ρ4, m3, accD', accV', E4, S4, h4, r4, n4, ?_⟩
        have e5 : compL I.2 (compB C tg' t' e' (ownI c.N scope) env) (I.1[i] :: I.1.drop (i + 1)) mc = (compL I.2 (compB C tg' t' e' (ownI c.N scope) env) (I.1.drop (i + 1)) m3).bind fun l' m2 => .ok (optC r l') m2 := by
          rw [compL, if_pos hc, eb0]
          rfl
        rw [e5] at qc
        cases e6 : compL I.2 (compB C tg' t' e' (ownI c.N scope) env) (I.1.drop (i + 1)) m3 with
        | stuck => rw [e6] at qc; exact (show False from qc).elim
        | exn a b c => rw [e6] at qc; exact qc
        | ok l' m2 =>
          rw [e6] at qc
          simp only [Res.bind] at qc ⊢
          rw [hl l'] at qc
          exact qc
      have small : ∀ x, r = some x → accD.length < sizeLine := fun x hr => by
        subst hr
        have h9 := qc
        rw [el0] at h9
        simp only [Res.bind] at h9
        split at h9
        · rename_i hz
          have : ∃ l', l = x :: l' := by
            cases e6 : compL I.2 (compB C tg' t' e' (ownI c.N scope) env) (I.1.drop (i + 1)) m3 with
            | stuck => rw [e6] at el; cases el
            | exn a b c => rw [e6] at el; cases el
            | ok l' m2 =>
              rw [e6] at el
              cases el
              exact ⟨l', rfl⟩
          obtain ⟨l', rfl⟩ := this
          simp at hz
          omega
        · exact (show False from h9).elim
      cases et : evalE t' C env2 mc with
      | stuck => rw [et] at eb; cases eb
      | exn _ _ _ => rw [et] at eb; cases eb
      | ok dt mt =>
      rw [et] at eb
      intro ρ3 H3 E3 S3
      cases dt with
      | bl b =>
        refine ⟨b, rfl, ?_⟩
        have hD3 : H3 D = some (.lst accV) := E3.keep D _ hD2 nD fun _ z => nomatch z
        have nD3 : D ∉ ρ3 := fun z => by
          obtain ⟨_, e⟩ := E3.new D z nD _ hD2
          cases e
        cases b with
        | false =>
          cases eb
          exact next accD accV ρ3 H3 (E12.trans E3) S3 hD3 ((ra.mono Sc E2).mono S2 E3) nD3 fun _ => rfl
        | true =>
          simp only at eb
          refine ⟨ρ3, mt, env2, S3, R2.mono S2 E3, ?_⟩
          cases ee : evalE e' C env2 mt with
          | stuck => rw [ee] at eb; cases eb
          | exn _ _ _ => rw [ee] at eb; cases eb
          | ok x mx =>
            rw [ee] at eb
            cases eb
            intro ρ4 H4 E4 S4 v rv
            have hD4 : H4 D = some (.lst accV) := E4.keep D _ hD3 nD3 fun _ z => nomatch z
            have nD4 : D ∉ ρ4 := fun z => by
              obtain ⟨_, e⟩ := E4.new D z nD3 _ hD3
              cases e
            have ra4 := ((ra.mono Sc E2).mono S2 E3).mono S3 E4
            have kk : ∀ a o, H4 a = some o → cellish o = false → upd H4 D (.lst (accV ++ [v])) a = some o := fun a o h cc => by
              rw [upd_ne]
              · exact h
              · rintro rfl
                rw [hD4] at h
                cases h
                cases cc
            refine ⟨accV, hD4, by rw [← ra4.length]; exact small x rfl, ?_⟩
            exact next (accD ++ [x]) (accV ++ [v]) ρ4 _ (((E12.trans E3).trans E4).side hD) (S4.side hD4 nD4) upd_same ((ra4.append (.cons rv .nil)).read kk) nD4 fun l' => by simp [optC]
      | _ => cases eb
    · refine .inl ?_
      have e0 : i = I.1.length := by omega
      subst e0
      rw [List.drop_length] at qc
      unfold compL at qc
      split at qc
      · rename_i hc
        refine ⟨(hJ _ ρc Hc mc Ec Sc hc).2 (Nat.le_refl _), ?_⟩
        simp only [Res.bind, List.append_nil] at qc
        split at qc
        · have E9 : Ext ρ1 H1 (ρc ++ [D]) Hc := ⟨Ec.pre.trans (List.prefix_append _ _), Ec.keep, fun a h n => by
            rcases List.mem_append.mp h with h | h
            · exact Ec.new a h n
            · rw [List.mem_singleton.mp h, hD]; exact fun o h => nomatch h⟩
          refine qc _ _ E9 (Sc.adopt nD ⟨accV, hDc, ra⟩) _ (.ref ?_)
          rw [← Sc.len]
          simp
        · exact (show False from qc).elim
      · exact (show False from qc).elim
theorem ok_comp {tg it elt : Expr} {ifs : List Expr} {scope : Scope} {pos : Pos} {tg' : Tg} {it' : II} {t' e' : IE} (G : Good c C Pg lv T X W) (hb : blkC c.N c.sc scope (ownOf c.N scope) = true) (pit : plainE it = true)
    (hi : OkI X T C W tg it it')
    (hg : ∀ (s : Shared) (H : Hp) (Ca : Addr) (cl : List (Str × Addr)) (fp : List Addr), PG (X.blk s H scope (compEnvC scope cl Ca X.env) fp) tg (gT X.K T tg'))
    (ht : ∀ (s : Shared) (H : Hp) (Ca : Addr) (cl : List (Str × Addr)) (fp : List Addr), PTs (X.blk s H scope (compEnvC scope cl Ca X.env) fp) ifs (tT X.K T C W0 t'))
    (he : ∀ (s : Shared) (H : Hp) (Ca : Addr) (cl : List (Str × Addr)) (fp : List Addr), PE (X.blk s H scope (compEnvC scope cl Ca X.env) fp) elt (tE X.K T C W0 e'))
    (hv : (tgVars tg').all (fun i => decide (i ∈ ownI c.N scope)) = true) :
    OkE X T C W (.ListComp elt [⟨tg, it, ifs, 0⟩] scope pos) (.comp tg' it' t' e' (ownI c.N scope)) := by
  have ok : BlkOk X.N X.env.scope scope (ownOf c.N scope) := by
    rw [G.hN, G.sc]
    exact blkOk_by hb
  have hv' : ∀ i ∈ tgVars tg', i ∈ ownI c.N scope := fun i h => of_decide_eq_true (List.all_eq_true.mp hv i h)
  have ok : BlkOk X.N X.env.scope scope (ownOf c.N scope) := by
    rw [G.hN, G.sc]
    exact blkOk_by hb
  exact PE.imp (pe_lc (own := ownOf c.N scope) G.calm G.nd hi ok hg ht he (noFold pit _)) fun σ H Q h => comp_tlc hv h
end
end Dat

/-! Dat12 -/
set_option linter.all false
set_option maxRecDepth 100000
set_option maxHeartbeats 1000000
/-! Dat12: told(lambda: ..). -/
namespace Dat
open PySem PySem.Spec L2 PyProof.Rows LamX

def wishN (K : PySem.W.Frag) (Q : VK) : List (Str × Str) → Value → Hp → Prop
  | [] => fun _ _ => False
  | q :: r => fun cls H' => ∃ b, PySem.W.exmOne K cls (.ref (He.ga K q.1)) = some b ∧ (b = true → Q (.str q.2) H') ∧ (b = false → wishN K Q r cls H')
def TTn (K : PySem.W.Frag) (cl : List (Str × Str)) : (XK → Hp → VK → Prop) → Hp → VK → Prop := fun tl H Q => tl (fun cls _ H' => wishN K Q cl cls H') H Q
def hdL (K : PySem.W.Frag) (cl : List (Str × Str)) : List (Value × (Addr → Value → Option Addr → TS)) := cl.map fun q => (.ref (He.ga K q.1), fun _ _ _ => tRet (tC (.str q.2)))
theorem hds_ok {Y : Cx} {K : PySem.W.Frag} {mg : Str → Option Value} {sg : Scope} (hK : Y.K = K) (hmg : Y.mg = mg) (hsc : Y.env.scope = sg) : ∀ {hs : List ExceptHandler} {cl : List (Str × Str)}, HdM K mg sg hs cl → HdsOk Y hs (hdL K cl)
  | _, _, .nil => .nil
  | _, _, .cons hg hd hm r => by
    refine .cons ⟨?_, hd, .inl (by rw [hmg]; exact hm)⟩ (fun a oe cls d pn _ _ => pss_one (ps_ret pe_str)) (hds_ok hK hmg hsc r)
    show Y.env.scope.names.lookup _ = _
    rw [hsc]
    exact hg
theorem wish_many {K : PySem.W.Frag} {D : Ends} {σ : L2.St} {d : Option Addr} : ∀ {cl : List (Str × Str)} {cls : Value} {H : Hp}, wishN K D.rt cl cls H → wMany K (fun _ _ _ _ => False) D (hdL K cl) cls d σ H
  | [], _, _, h => h
  | q :: r, cls, H, h => by
    obtain ⟨b, e, h1, h2⟩ := h
    exact ⟨b, e, fun hb a _ => h1 hb, fun hb => wish_many (h2 hb)⟩
section
variable {X : Cx} {T : List (Addr × Str)} {C : Ctl} {W : WX} {c : Ctx} {Pg : Prog} {lv : Nat}
theorem told_givesN {Ng : List Str} {x a q : Str} {sg : Scope} {g : Addr} {cdg : Value} {cl : List (Str × Str)} {h₀ : ExceptHandler} {hs : List ExceptHandler} {p1 p2 p3 p8 : Pos} (hm : HdM X.K X.mg sg (h₀ :: hs) cl)
    (h0 : ∀ f : Addr, (L2.start Ng [V.ref f])[0]? = some (some (V.ref f))) :
    GivesTo X Ng x sg g cdg [.Try [.Return (some (.Call (.Name a p1) [] [] p2)) p3] (h₀ :: hs) [] [] p8] a q (TTn X.K cl) := by
  intro f c' s H Q tl act hc h
  refine ⟨_, pss_one (ps_try_many (X := (cxOf C8.CX0 X.prog X.w X.K X.mg X.base Ng x sg g cdg X.A X.stack s H C8.E0).nox)
      (tb := fun W D σ H => ∃ Ech : XK, (∀ cls d σ' H', Ech cls d H' → W cls d σ' H') ∧ σ[0]? = some (some (.ref f)) ∧ H c' = some (CodeO c' q) ∧ tl Ech H D.rt)
      rfl rfl takes_none5 (fun W pn xe tk _ => ?_) (hds_ok (Y := (cxOf C8.CX0 X.prog X.w X.K X.mg X.base Ng x sg g cdg X.A X.stack s H C8.E0).nox) (K := X.K) (mg := X.mg) (sg := sg) rfl rfl rfl hm)), ?_⟩
  · refine ⟨fun pins s' σ H' D I h' => ?_⟩
    obtain ⟨Ech, hW, h1, h2, h3⟩ := h'
    have hp := act W pn xe Ech p1 p2 tk hW
    have hq := pss_one (ps_ret (pos := p3) hp)
    exact hq.run pins s' σ H' D I ⟨h1, h2, h3⟩
  · exact ⟨fun cls _ H' => wishN X.K Q cl cls H', fun cls d σ' H' z => wish_many (D := { nx := fun _ H' => Q .non H', rt := Q }) z, h0 f, hc, h⟩
theorem toldM_wish {K : PySem.W.Frag} {sub : Str → Str → Option Bool} {Q : VK} {H : Hp} {cc s : Str} (ex : ∀ c c' b, sub c c' = some b → PySem.W.exmOne K (.ref (He.ga K c)) (.ref (He.ga K c')) = some b) :
    ∀ {cl : List (Str × Str)}, toldM sub cc cl = some s → Q (.str s) H → wishN K Q cl (.ref (He.ga K cc)) H
  | [], h, _ => by cases h
  | q :: r, h, hq => by
    unfold toldM at h
    split at h
    · rename_i e
      cases h
      exact ⟨true, ex _ _ _ e, fun _ => hq, fun z => absurd z (by decide)⟩
    · rename_i e
      exact ⟨false, ex _ _ _ e, fun z => absurd z (by decide), fun _ => toldM_wish ex h hq⟩
    · cases h
theorem Good.lamG (G : Good c C Pg lv T X W) {k : Nat} (hk : k = lv - 2) (L : LamOk c C Pg lv T X) {scope : Scope} {A : Around} {outer : List Env} {s : Shared} {H : Hp} {E : XK} {f c' : Addr}
    (hr : Room k (A.deeper (lamEnv X scope s.heap.objs.size f c'))) : Good { c with sc := scope, blk := true, lam := false, told := [] } C.inner Pg k T (lamCx X A outer s H E scope f c') (fun cls d _ H => E cls d H) where
  call := by
    show C.call2 = _
    rw [L.call2, hk]
  lam := fun h => by cases h
  calm := rfl
  nd := G.nd
  hN := G.hN
  sc := rfl
  room := hr
  tk := takes_of rfl rfl rfl rfl
  po := passes_of rfl
  fn := fun h => by cases h
  two := fun i cl h => by cases h
  fns := fun j hj => ⟨(G.fns j (by omega)).fn, (G.fns j (by omega)).np⟩
  glos := G.glos
  blt := G.blt
  told := fun i cl h => by cases h
  exm := G.exm
  exs := G.exs
theorem gc_then {K : PySem.W.Frag} {ρ : List Addr} {H : Hp} {m m' : Mem} {d : D} {v : V} {Q : VK} {ρ' : List Addr} {H' : Hp} {ex : Str → Option D → Mem → List Addr → Hp → Prop} (S : Sto K T ρ H m) (h : Then K T ρ H ((Res.ok d m').gc m.length) (fun d _ ρ' H' => ∀ v, RelD K ρ' H' d v → Q v H') ex)
    (E : Ext ρ H ρ' H') (S' : Sto K T ρ' H' m') (r : RelD K ρ' H' d v) : Q v H' := by
  obtain ⟨ρ2, E2, S2, r2⟩ := gc_ok E S' S.len r
  exact h ρ2 H' E2 S2 v r2
theorem ok_told {f : Str} {ps : Arguments} {body : Expr} {e' : IE} {scope : Scope} {i : Nat} {q : Str × List Str} {p lpos pos : Pos} (G : Good c C Pg lv T X W) (hl : c.lam = true) (hg : c.isGl f = true) (hi : c.fns[i]? = some q) (hq : q.1 = f) {cl : List (Str × Str)} (ht : C.told.lookup i = some cl)
    (hp : plainLam ps = true) (hs : lamSB c.sc scope = true)
    (hb : ∀ (A : Around) (outer : List Env) (s : Shared) (H : Hp) (E : XK) (f c' : Addr), Room (lv - 2) (A.deeper (lamEnv X scope s.heap.objs.size f c')) → PE (lamCx X A outer s H E scope f c') body (tE X.K T C.inner (fun cls d _ H => E cls d H) e')) :
    OkE X T C W (.Call (.Name f p) [.Lambda ps body scope lpos] [] pos) (.told i e') := by
  have two := G.two i cl ht
  have L := G.lam hl two
  obtain ⟨cc, PP, hcode, TB, hmT, hu⟩ := L.code
  obtain ⟨x, a, g, pg, bg, sg, Ng, dV, kV, doc, pm, cdv, ct, oc, od, an, osl, h₀, hs', p1, p2, p3, p8, k1, k2, k3, k4, k5, k6, k7, k8, k9, k9a, k9b, k10, k11⟩ := G.told i cl ht
  rw [hi] at k1
  cases k1
  have hx : x = f := hq
  subst hx
  have L2' : LamS X.env.scope scope := by
    rw [G.sc]
    exact lamS_by hs
  have hr2 : Room (lv - 2 + 2) X.A := by
    have e : lv - 2 + 2 = lv := by omega
    rw [e]
    exact G.room
  have hdef : defaultsOf ps X.env = ([], []) := by
    obtain ⟨_ | _, _ | _, _ | _, _ | _, _ | _, _ | _, _ | _⟩ := ps <;> first | rfl | cases hp
  have hbind : ∀ (q : Str) (cl : List (Str × Addr)) (pm cv ctv : Value), bindArgs (PySem.W.kla_fn "<lambda>" q ps body scope cl pm cv ctv) ⟨[], []⟩ = pure [] := by
    obtain ⟨_ | _, _ | _, _ | _, _ | _, _ | _, _ | _, _ | _⟩ := ps <;> first | (intros; rfl) | cases hp
  subst k10
  refine PE.imp (pe_lamcall (T := T) (TT := TTn X.K cl) (t := fun E => tE X.K T C.inner (fun cls d _ H => E cls d H) e') (k := lv - 2) (G.gl hg) k2 k3 k4 k5 k6 k7 k8 k9
    (told_givesN k11 (fun f => by simp [L2.start])) TB hcode hmT hu hr2 L2' hdef hbind hb (isGl_of hg).2.1 k9a k9b) fun σ H Q ⟨ρ, m, env, S, R, q⟩ => ?_
  refine ⟨S.tabs, fun H1 eN T1 => ?_⟩
  have kk : ∀ a o, H a = some o → (∀ ps, o ≠ .tbl ps) → H1 a = some o := fun a o h n => eN a o h n
  have E1 : Ext ρ H ρ H1 := ⟨List.prefix_refl _, fun a o h _ n => kk a o h n, fun _ h n => absurd h n⟩
  have S1 : Sto X.K T ρ H1 m := ⟨S.len, S.nd, fun i c h => by
    obtain ⟨a, e, r⟩ := S.cell i c h
    obtain ⟨u, hu, cu⟩ := r.ish
    exact ⟨a, e, r.mono S E1 ((kk a u hu (fun ps z => by rw [z] at cu; cases cu)).trans hu.symm)⟩, T1⟩
  unfold evalE at q
  rw [ht] at q
  simp only at q
  refine ⟨ρ, m, env, S1, R.mono S E1, ?_⟩
  cases er : evalE e' C.inner env m with
  | stuck => rw [er] at q; exact q
  | ok d m1 =>
    rw [er] at q
    exact fun ρ' H' E' S' v r => gc_then S q (E1.trans E') S' r
  | exn k pl m1 =>
    rw [er] at q
    simp only at q
    split at q
    · rename_i s es
      exact fun ρ' H' E' S' dd _ => toldM_wish G.exm es (gc_then (v := .str s) S q (E1.trans E') S' (.str s))
    · exact (show False from q).elim
end
end Dat

/-! Dat13 -/
set_option linter.all false
set_option maxRecDepth 100000
set_option maxHeartbeats 2000000
/-! Dat13: every compiled expression. -/
namespace Dat
open PySem PySem.Spec L2 PyProof.Rows

def SndE (n : Nat) : Prop := ∀ (c : Ctx) (e : Expr) (ir : IE), cE n c e = some ir → ∀ (C : Ctl) (Pg : Prog) (lv : Nat) (T : List (Addr × Str)) (X : Cx) (W : WX), Good c C Pg lv T X W → OkE X T C W e ir ∧ OkT X T C W e ir
def SndEs (n : Nat) : Prop := ∀ (c : Ctx) (es : List Expr) (l : List IE), cEs n c es = some l → ∀ (C : Ctl) (Pg : Prog) (lv : Nat) (T : List (Addr × Str)) (X : Cx) (W : WX), Good c C Pg lv T X W → OkA X T C W es l
def SndO (n : Nat) : Prop := ∀ (c : Ctx) (e : Option Expr) (ir : IE), cO n c e = some ir → ∀ (C : Ctl) (Pg : Prog) (lv : Nat) (T : List (Addr × Str)) (X : Cx) (W : WX), Good c C Pg lv T X W → PO X e (tO X.K T C W e.isSome ir)
def SndI (n : Nat) : Prop := ∀ (c : Ctx) (tg e : Expr) (ir : II), cI n c tg e = some ir → ∀ (C : Ctl) (Pg : Prog) (lv : Nat) (T : List (Addr × Str)) (X : Cx) (W : WX), Good c C Pg lv T X W → OkI X T C W tg e ir
theorem cEs_plain {c : Ctx} : ∀ {n : Nat} {es : List Expr} {l : List IE}, cEs n c es = some l → plainEs es = true
  | 0, _, _, h => by simp [cEs] at h
  | n + 1, [], _, _ => rfl
  | n + 1, e :: es, l, h => by
    simp only [cEs, Option.bind_eq_some_iff] at h
    obtain ⟨e', he, r', hr, _⟩ := h
    simp [plainEs, cE_plain he, cEs_plain hr]
theorem pw_of {X : Cx} {op : BoolOp} {vs : List Expr} {pos : Pos} {t : TT} (h : PT X (.BoolOp op vs pos) t) : PW X (.BoolOp op vs pos) t := ⟨fun whole pins s σ H Q I q => by
  have e : ∀ wh, PySem.isTrue (.BoolOp op vs pos) X.env wh = allTrue op vs X.env := fun wh => by rw [PySem.isTrue]
  have z := h.run pins s σ H Q I q
  rw [e] at z ⊢
  exact z⟩
theorem stuck_told {X : Cx} {T : List (Addr × Str)} {C : Ctl} {W : WX} {e : Expr} {i : Nat} {e' : IE} (h : C.told.lookup i = none) : OkE X T C W e (.told i e') := ⟨fun pins s σ H Q I ⟨ρ, m, env, S, R, q⟩ => by
  unfold evalE at q
  rw [h] at q
  exact (show False from q).elim⟩
section
variable {n : Nat}
theorem snd_name (x : Str) (pos : Pos) {c : Ctx} {ir : IE} (h : cE (n + 1) c (.Name x pos) = some ir) {C : Ctl} {Pg : Prog} {lv : Nat} {T : List (Addr × Str)} {X : Cx} {W : WX} (G : Good c C Pg lv T X W) : OkE X T C W (.Name x pos) ir := by
  simp only [cE] at h
  split at h
  · rename_i i hi
    cases h
    exact ok_var G hi
  · split at h
    · rename_i hg
      rw [Option.map_eq_some_iff] at h
      obtain ⟨d, hd, rfl⟩ := h
      exact ok_glo G hg hd
    · cases h
theorem fn_at {c : Ctx} {f : Str} {i : Nat} (h : c.fns.findIdx? (fun q => q.1 == f) = some i) : ∃ q, c.fns[i]? = some q ∧ q.1 = f := by
  rw [List.findIdx?_eq_some_iff_getElem] at h
  obtain ⟨hi, h1, _⟩ := h
  exact ⟨c.fns[i], List.getElem?_eq_getElem hi, beq_iff_eq.mp h1⟩
theorem cEs_nil {c : Ctx} {l : List IE} (h : cEs n c [] = some l) : l = [] := by
  cases n with
  | zero => simp [cEs] at h
  | succ n => simp [cEs] at h; exact h
theorem snd_call (f : Str) (p : Pos) (args : List Expr) (pos : Pos) {c : Ctx} {ir : IE} (HE : SndE n) (HEs : SndEs n) (h : cE (n + 1) c (.Call (.Name f p) args [] pos) = some ir) {C : Ctl} {Pg : Prog} {lv : Nat} {T : List (Addr × Str)} {X : Cx} {W : WX} (G : Good c C Pg lv T X W) : OkE X T C W (.Call (.Name f p) args [] pos) ir := by
  by_cases hlam : ∃ ps body scope lpos, args = [.Lambda ps body scope lpos]
  · obtain ⟨ps, body, scope, lpos, rfl⟩ := hlam
    simp only [cE] at h
    split at h
    · rename_i hg
      split at h
      · rename_i i hi
        split at h
        · rename_i hc
          rw [Option.bind_eq_some_iff] at h
          obtain ⟨e', he, h⟩ := h
          cases h
          obtain ⟨q, hq, hf⟩ := fn_at hi
          cases ht : C.told.lookup i with
          | none => exact stuck_told ht
          | some cl =>
            have two := G.two i cl ht
            exact ok_told G hc.2.1 hg hq hf ht hc.2.2.1 hc.2.2.2 fun A outer s H E f' c' hr => (HE _ _ _ he _ _ _ _ _ _ (G.lamG rfl (G.lam hc.2.1 two) hr)).1
        · cases h
      · cases h
    · cases h
  · have h2 : (if c.isGl f = true then (match c.fns.findIdx? (fun q => q.1 == f) with
      | some i => (match c.fns[i]? with
        | some q => if q.1 = f ∧ q.2.length = args.length then (cEs n c args).bind fun l => some (.call i l) else none
        | none => none)
      | none => (match lrevOf c f args with
        | some a => (cE n c a).bind fun a' => some (.lrev a')
        | none => (bltOf f args.length).bind fun b => (cEs n c args).bind fun l => some (.blt b l))) else none) = some ir := by
      rw [cE] at h
      · exact h
      · rintro ps body scope lpos rfl
        exact hlam ⟨_, _, _, _, rfl⟩
    split at h2
    · rename_i hg
      split at h2
      · rename_i i hi
        split at h2
        · rename_i q hq
          split at h2
          · rename_i hc
            rw [Option.bind_eq_some_iff] at h2
            obtain ⟨l, hl, h2⟩ := h2
            cases h2
            cases args with
            | nil =>
              rw [cEs_nil hl]
              exact ok_call0 G hg hq hc.1
            | cons e es => exact ok_call G hg hq hc.1 (cEs_plain hl) (HEs _ _ _ hl _ _ _ _ _ _ G)
          · cases h2
        · cases h2
      · split at h2
        · rename_i a ha
          rw [Option.bind_eq_some_iff] at h2
          obtain ⟨a', he, h2⟩ := h2
          cases h2
          unfold lrevOf at ha
          split at ha
          · split at ha
            · rename_i hc
              cases ha
              obtain ⟨rfl, rfl, hr⟩ := hc
              exact ok_lrev G hg hr (cE_plain he) (HE _ _ _ he _ _ _ _ _ _ G).1
            · cases ha
          · cases ha
        · simp only [Option.bind_eq_some_iff] at h2
          obtain ⟨b, hb, l, hl, h2⟩ := h2
          cases h2
          cases args with
          | nil =>
            exfalso
            unfold bltOf at hb
            simp at hb
          | cons e es => exact ok_blt G hg hb (cEs_plain hl) (HEs _ _ _ hl _ _ _ _ _ _ G)
    · cases h2
theorem snd_meth (o : Expr) (f : Str) (ap : Pos) (args : List Expr) (pos : Pos) {c : Ctx} {ir : IE} (HE : SndE n) (HEs : SndEs n) (h : cE (n + 1) c (.Call (.Attribute o f ap) args [] pos) = some ir) {C : Ctl} {Pg : Prog} {lv : Nat} {T : List (Addr × Str)} {X : Cx} {W : WX} (G : Good c C Pg lv T X W) : OkE X T C W (.Call (.Attribute o f ap) args [] pos) ir := by
  simp only [cE] at h
  split at h
  · rename_i hc
    simp only [Option.bind_eq_some_iff] at h
    obtain ⟨k, hk, o', ho, l, hl, h⟩ := h
    cases h
    have nb : attributeBase o f X.env (eval o X.env) = eval o X.env := by
      cases o <;> first | rfl | (cases hc.2)
    cases args with
    | nil =>
      rw [cEs_nil hl]
      exact ok_mth0 hk hc.1 nb (HE _ _ _ ho _ _ _ _ _ _ G).1
    | cons e es =>
      cases es with
      | nil => exact ok_mth1 hk hc.1 nb (pa_two (cEs_plain hl)).1 (HE _ _ _ ho _ _ _ _ _ _ G).1 (HEs _ _ _ hl _ _ _ _ _ _ G)
      | cons e2 es =>
        exfalso
        unfold mthOf at hk
        simp at hk
  · cases h
theorem snd_comp (elt tg it : Expr) (ifs : List Expr) (scope : Scope) (pos : Pos) {c : Ctx} {ir : IE} (HE : SndE n) (HI : SndI n) (h : cE (n + 1) c (.ListComp elt [⟨tg, it, ifs, 0⟩] scope pos) = some ir) {C : Ctl} {Pg : Prog} {lv : Nat} {T : List (Addr × Str)} {X : Cx} {W : WX} (G : Good c C Pg lv T X W) : OkE X T C W (.ListComp elt [⟨tg, it, ifs, 0⟩] scope pos) ir := by
  simp only [cE] at h
  split at h
  · rename_i hc
    simp only [Option.bind_eq_some_iff] at h
    obtain ⟨it', hi, tg', ht, t', hif, e', he, h⟩ := h
    split at h
    · rename_i hv
      cases h
      refine ok_comp G hc.2.1 hc.2.2 (HI _ _ _ _ hi _ _ _ _ _ _ G) (fun s H Ca cl fp => ok_tg (G.blk scope s H Ca cl fp) _ _ _ ht) (fun s H Ca cl fp => ?_) (fun s H Ca cl fp => (HE _ _ _ he _ _ _ _ _ _ (G.blk scope s H Ca cl fp)).1) hv
      cases ifs with
      | nil => cases hif; exact ok_yes
      | cons i r =>
        cases r with
        | nil => exact pts_one (HE _ _ _ hif _ _ _ _ _ _ (G.blk scope s H Ca cl fp)).2
        | cons _ _ => cases hif
    · cases h
  · cases h
theorem snd_seqI {tg e : Expr} {c : Ctx} {ir : II} (HE : SndE n) (h : ((cE n c e).bind fun e' => some (II.seq e')) = some ir) {C : Ctl} {Pg : Prog} {lv : Nat} {T : List (Addr × Str)} {X : Cx} {W : WX} (G : Good c C Pg lv T X W) : OkI X T C W tg e ir := by
  rw [Option.bind_eq_some_iff] at h
  obtain ⟨e', he, h⟩ := h
  cases h
  exact ok_seq (HE _ _ _ he _ _ _ _ _ _ G).1
theorem snd_I (HE : SndE n) : SndI (n + 1) := by
  intro c tg e ir h C Pg lv T X W G
  unfold cI at h
  split at h
  · split at h
    · rename_i hc
      rw [Option.bind_eq_some_iff] at h
      obtain ⟨a', ha, h⟩ := h
      cases h
      obtain ⟨hg, rfl⟩ := hc
      exact ok_rng1 G hg (cE_plain ha) (HE _ _ _ ha _ _ _ _ _ _ G).1
    · split at h
      · rename_i hc
        rw [Option.bind_eq_some_iff] at h
        obtain ⟨a', ha, h⟩ := h
        cases h
        obtain ⟨hg, rfl⟩ := hc
        exact ok_rev G hg (cE_plain ha) (HE _ _ _ ha _ _ _ _ _ _ G).1
      · split at h
        · rename_i hc
          rw [Option.bind_eq_some_iff] at h
          obtain ⟨a', ha, h⟩ := h
          cases h
          obtain ⟨hg, rfl, htg⟩ := hc
          cases tg with
          | Tuple tgs kk tpos => exact ok_enm G hg (cE_plain ha) (HE _ _ _ ha _ _ _ _ _ _ G).1
          | _ => cases htg
        · exact snd_seqI HE h G
  · split at h
    · rename_i hc
      simp only [Option.bind_eq_some_iff] at h
      obtain ⟨a', ha, b', hb, h⟩ := h
      cases h
      obtain ⟨hg, rfl⟩ := hc
      exact ok_rng2 G hg (cE_plain ha) (cE_plain hb) (HE _ _ _ ha _ _ _ _ _ _ G).1 (HE _ _ _ hb _ _ _ _ _ _ G).1
    · split at h
      · rename_i hc
        simp only [Option.bind_eq_some_iff] at h
        obtain ⟨a', ha, b', hb, h⟩ := h
        cases h
        obtain ⟨hg, rfl, htg⟩ := hc
        cases tg with
        | Tuple tgs kk tpos => exact ok_zip G hg (cE_plain ha) (cE_plain hb) (HE _ _ _ ha _ _ _ _ _ _ G).1 (HE _ _ _ hb _ _ _ _ _ _ G).1
        | _ => cases htg
      · exact snd_seqI HE h G
  · exact snd_seqI HE h G
theorem snd_O (HE : SndE n) : SndO (n + 1) := by
  intro c e ir h C Pg lv T X W G
  cases e with
  | none =>
    simp only [cO, Option.some.injEq] at h
    subst h
    exact ok_nop
  | some e =>
    simp only [cO] at h
    exact ok_part (HE _ _ _ h _ _ _ _ _ _ G).1
theorem snd_Es (HE : SndE n) (HEs : SndEs n) : SndEs (n + 1) := by
  intro c es l h C Pg lv T X W G
  cases es with
  | nil =>
    simp only [cEs, Option.some.injEq] at h
    subst h
    exact ok_nil
  | cons e es =>
    simp only [cEs, Option.bind_eq_some_iff] at h
    obtain ⟨e', he, r', hr, h⟩ := h
    cases h
    exact ok_cons (cE_plain he) (HE _ _ _ he _ _ _ _ _ _ G).1 (HEs _ _ _ hr _ _ _ _ _ _ G)
theorem snd_bool (op : BoolOp) (vs : List Expr) (pos : Pos) (HE : SndE n) {c : Ctx} {ir : IE} (h : cE (n + 1) c (.BoolOp op vs pos) = some ir) {C : Ctl} {Pg : Prog} {lv : Nat} {T : List (Addr × Str)} {X : Cx} {W : WX} (G : Good c C Pg lv T X W) : OkE X T C W (.BoolOp op vs pos) ir ∧ OkT X T C W (.BoolOp op vs pos) ir := by
  match op, vs, h with
  | .And, [a, b], h =>
    simp only [cE, Option.bind_eq_some_iff] at h
    obtain ⟨a', ha, b', hb, h⟩ := h
    cases h
    have A := HE _ _ _ ha _ _ _ _ _ _ G
    have B := HE _ _ _ hb _ _ _ _ _ _ G
    exact ⟨ok_and A.1 (pe_one B.1), (ok_andT A.2 (pw_and1 B.2)).pt⟩
  | .Or, [a, b], h =>
    simp only [cE, Option.bind_eq_some_iff] at h
    obtain ⟨a', ha, b', hb, h⟩ := h
    cases h
    have A := HE _ _ _ ha _ _ _ _ _ _ G
    have B := HE _ _ _ hb _ _ _ _ _ _ G
    exact ⟨ok_or A.1 (pe_one B.1), (ok_orT A.2 (pw_or1 B.2)).pt⟩
  | .And, a :: b :: d :: r, h =>
    simp only [cE, Option.bind_eq_some_iff] at h
    obtain ⟨a', ha, b', hb, h⟩ := h
    cases h
    have A := HE _ _ _ ha _ _ _ _ _ _ G
    have B := HE _ _ _ hb _ _ _ _ _ _ G
    exact ⟨ok_and A.1 B.1, (ok_andT A.2 (pw_of B.2)).pt⟩
  | .Or, a :: b :: d :: r, h =>
    simp only [cE, Option.bind_eq_some_iff] at h
    obtain ⟨a', ha, b', hb, h⟩ := h
    cases h
    have A := HE _ _ _ ha _ _ _ _ _ _ G
    have B := HE _ _ _ hb _ _ _ _ _ _ G
    exact ⟨ok_or A.1 B.1, (ok_orT A.2 (pw_of B.2)).pt⟩
  | .And, [], h => simp [cE] at h
  | .Or, [], h => simp [cE] at h
  | .And, [a], h => simp [cE] at h
  | .Or, [a], h => simp [cE] at h
theorem snd_cmp (a : Expr) (ops : List CmpOp) (es : List Expr) (pos : Pos) (HE : SndE n) {c : Ctx} {ir : IE} (h : cE (n + 1) c (.Compare a ops es pos) = some ir) {C : Ctl} {Pg : Prog} {lv : Nat} {T : List (Addr × Str)} {X : Cx} {W : WX} (G : Good c C Pg lv T X W) : OkE X T C W (.Compare a ops es pos) ir ∧ OkT X T C W (.Compare a ops es pos) ir := by
  match ops, es, h with
  | [op], [b], h =>
    simp only [cE, Option.bind_eq_some_iff] at h
    obtain ⟨a', ha, b', hb, h⟩ := h
    cases h
    have A := HE _ _ _ ha _ _ _ _ _ _ G
    have B := HE _ _ _ hb _ _ _ _ _ _ G
    exact ⟨ok_cmp G (cE_plain hb) A.1 B.1, ok_cmpT G (cE_plain hb) A.1 B.1⟩
  | [o1, o2], [b, d], h =>
    simp only [cE, Option.bind_eq_some_iff] at h
    obtain ⟨a', ha, b', hb, d', hd, h⟩ := h
    cases h
    have A := HE _ _ _ ha _ _ _ _ _ _ G
    have B := HE _ _ _ hb _ _ _ _ _ _ G
    have D := HE _ _ _ hd _ _ _ _ _ _ G
    exact ⟨ok_cmp2 G (cE_plain hd) A.1 B.1 D.1, ok_cmp2T G (cE_plain hd) A.1 B.1 D.1⟩
  | [], _, h => simp [cE] at h
  | [_], [], h => simp [cE] at h
  | [_], _ :: _ :: _, h => simp [cE] at h
  | [_, _], [], h => simp [cE] at h
  | [_, _], [_], h => simp [cE] at h
  | [_, _], _ :: _ :: _ :: _, h => simp [cE] at h
  | _ :: _ :: _ :: _, _, h => simp [cE] at h
theorem snd_un (op : UnaryOp) (a : Expr) (pos : Pos) (HE : SndE n) {c : Ctx} {ir : IE} (h : cE (n + 1) c (.UnaryOp op a pos) = some ir) {C : Ctl} {Pg : Prog} {lv : Nat} {T : List (Addr × Str)} {X : Cx} {W : WX} (G : Good c C Pg lv T X W) : OkE X T C W (.UnaryOp op a pos) ir ∧ OkT X T C W (.UnaryOp op a pos) ir := by
  cases op with
  | USub =>
    simp only [cE, Option.bind_eq_some_iff] at h
    obtain ⟨a', ha, h⟩ := h
    cases h
    have A := HE _ _ _ ha _ _ _ _ _ _ G
    exact ⟨ok_neg A.1, ok_val (ok_neg A.1) fun _ => by rw [PySem.isTrue]; all_goals simp⟩
  | Not =>
    simp only [cE, Option.bind_eq_some_iff] at h
    obtain ⟨a', ha, h⟩ := h
    cases h
    have A := HE _ _ _ ha _ _ _ _ _ _ G
    exact ⟨ok_not A.1, ok_notT A.2⟩
  | _ => simp [cE] at h
theorem snd_sub (a b : Expr) (pos : Pos) (HE : SndE n) (HO : SndO n) {c : Ctx} {ir : IE} (h : cE (n + 1) c (.Subscript a b pos) = some ir) {C : Ctl} {Pg : Prog} {lv : Nat} {T : List (Addr × Str)} {X : Cx} {W : WX} (G : Good c C Pg lv T X W) : OkE X T C W (.Subscript a b pos) ir := by
  by_cases hs : ∃ lo hi p, b = .Slice lo hi none p
  · obtain ⟨lo, hi, p, rfl⟩ := hs
    simp only [cE, Option.bind_eq_some_iff] at h
    obtain ⟨a', ha, l', hl, h', hh, h⟩ := h
    cases h
    exact ok_slc (HE _ _ _ ha _ _ _ _ _ _ G).1 (HO _ _ _ hl _ _ _ _ _ _ G) (HO _ _ _ hh _ _ _ _ _ _ G)
  · rw [cE] at h
    · split at h
      · rename_i nb
        simp only [Option.bind_eq_some_iff] at h
        obtain ⟨a', ha, b', hb, h⟩ := h
        cases h
        exact ok_idx nb (HE _ _ _ ha _ _ _ _ _ _ G).1 (HE _ _ _ hb _ _ _ _ _ _ G).1
      · cases h
    · rintro lo hi p rfl
      exact hs ⟨_, _, _, rfl⟩
theorem snd_E (HE : SndE n) (HEs : SndEs n) (HO : SndO n) (HI : SndI n) : SndE (n + 1) := by
  intro c e ir h C Pg lv T X W G
  have tr : ∀ {e : Expr} {ir : IE}, OkE X T C W e ir → (∀ whole, PySem.isTrue e X.env whole = (do let v ← whole; standAt e.pos; holding [v] (truthy v))) → OkE X T C W e ir ∧ OkT X T C W e ir := fun h he => ⟨h, ok_val h he⟩
  cases e with
  | Name x pos => exact tr (snd_name x pos h G) fun _ => by rw [PySem.isTrue]; all_goals simp
  | Constant k j pos =>
    simp only [cE, Option.map_eq_some_iff] at h
    obtain ⟨d, hd, rfl⟩ := h
    exact tr (ok_con hd) fun _ => by rw [PySem.isTrue]; all_goals simp
  | BinOp a op b pos =>
    simp only [cE] at h
    split at h
    · rename_i ho
      simp only [Option.bind_eq_some_iff] at h
      obtain ⟨a', ha, b', hb, h⟩ := h
      cases h
      exact tr (ok_bin ho (HE _ _ _ ha _ _ _ _ _ _ G).1 (HE _ _ _ hb _ _ _ _ _ _ G).1) fun _ => by rw [PySem.isTrue]; all_goals simp
    · cases h
  | UnaryOp op a pos => exact snd_un op a pos HE h G
  | BoolOp op vs pos => exact snd_bool op vs pos HE h G
  | Compare a ops es pos => exact snd_cmp a ops es pos HE h G
  | IfExp t a b pos =>
    simp only [cE, Option.bind_eq_some_iff] at h
    obtain ⟨t', ht, a', ha, b', hb, h⟩ := h
    cases h
    have Tt := HE _ _ _ ht _ _ _ _ _ _ G
    have A := HE _ _ _ ha _ _ _ _ _ _ G
    have B := HE _ _ _ hb _ _ _ _ _ _ G
    exact ⟨ok_if Tt.2 A.1 B.1, ok_ifT Tt.2 A.2 B.2⟩
  | Subscript a b pos => exact tr (snd_sub a b pos HE HO h G) fun _ => by rw [PySem.isTrue]; all_goals simp
  | Tuple es k pos =>
    simp only [cE, Option.bind_eq_some_iff] at h
    obtain ⟨l, hl, h⟩ := h
    cases h
    exact tr (ok_tup (HEs _ _ _ hl _ _ _ _ _ _ G)) fun _ => by rw [PySem.isTrue]; all_goals simp
  | List es pos =>
    simp only [cE, Option.bind_eq_some_iff] at h
    obtain ⟨l, hl, h⟩ := h
    cases h
    exact tr (ok_lst (HEs _ _ _ hl _ _ _ _ _ _ G)) fun _ => by rw [PySem.isTrue]; all_goals simp
  | Call f args kws pos =>
    cases kws with
    | cons _ _ => cases f <;> simp [cE] at h
    | nil =>
      cases f with
      | Name f p => exact tr (snd_call f p args pos HE HEs h G) fun _ => by rw [PySem.isTrue]; all_goals simp
      | Attribute o f ap => exact tr (snd_meth o f ap args pos HE HEs h G) fun _ => by rw [PySem.isTrue]; all_goals simp
      | _ => simp [cE] at h
  | ListComp elt gens scope pos =>
    match gens, h with
    | [⟨tg, it, ifs, as⟩], h =>
      have e : as = 0 := by
        simp only [cE] at h
        split at h
        · rename_i hc
          exact hc.1
        · cases h
      subst e
      exact tr (snd_comp elt tg it ifs scope pos HE HI h G) fun _ => by rw [PySem.isTrue]; all_goals simp
    | [], h => simp [cE] at h
    | _ :: _ :: _, h => simp [cE] at h
  | _ => simp [cE] at h
theorem snd_all : ∀ n, SndE n ∧ SndEs n ∧ SndO n ∧ SndI n
  | 0 => ⟨fun _ _ _ h => by simp [cE] at h, fun _ _ _ h => by simp [cEs] at h, fun _ _ _ h => by simp [cO] at h, fun _ _ _ _ h => by simp [cI] at h⟩
  | n + 1 => by
    obtain ⟨h1, h2, h3, h4⟩ := snd_all n
    exact ⟨snd_E h1 h2 h3 h4, snd_Es h1 h2, snd_O h1, snd_I h1⟩
end
end Dat

/-! Dat14 -/
set_option linter.all false
set_option maxRecDepth 100000
set_option maxHeartbeats 2000000
/-! Dat14: statements. -/
namespace Dat
open PySem PySem.Spec L2 PyProof.Rows
def blkK (sc : Scope) : ScopeKind := if sc.kind.isAnnotationScope then .function else sc.kind
def swTV : List Expr → Expr → Option (List Expr × List Expr)
  | [.Tuple ts _ _], .Tuple vs _ _ => some (ts, vs)
  | [.List ts _], .Tuple vs _ _ => some (ts, vs)
  | _, _ => none
def swB (sc : Scope) (targets : List Expr) (value : Expr) : Option (Option (List Str)) := match swTV targets value with
  | none => some none
  | some (ts, vs) =>
    if (!(ts.length == 2 || ts.length == 3) || vs.length != ts.length || blkK sc != .function) = true then some none else
    if (vs.any fun | .Starred .. => true | _ => false) = true then some none else
    let line := (ts.head?.map (·.pos.line)).getD 0
    let names := ts.filterMap fun
      | .Name id pos => if sc.names.lookup id == some .local && pos.line == line then some id else none
      | _ => none
    if (names.length != ts.length || names.eraseDups.length != names.length) = true then some none else
    if vs.all (foldedForSure 8) = true then some none else
    if vs.all (constantsAlone 8) = true then none else some (some names)
theorem sw_ok {env : Env} {sc : Scope} {ts : List Expr} {v : Expr} {r : Option (List Str)} (hs : env.scope = sc) (h : swB sc ts v = some r) : swappedStores ts v env = pure r := by
  subst hs
  unfold swappedStores
  split
  · rename_i tl vl heq
    have hq : swTV ts v = some (tl, vl) := by
      split at heq
      · cases heq; rfl
      · cases heq; rfl
      · cases heq
    unfold swB at h
    rw [hq] at h
    simp only at h ⊢
    have e2 : env.blockKind = blkK env.scope := rfl
    rw [e2]
    split at h
    · rename_i c; cases h; exact if_pos c
    · rename_i c; refine (if_neg c).trans ?_
      split at h
      · rename_i c; cases h; exact if_pos c
      · rename_i c; refine (if_neg c).trans ?_
        split at h
        · rename_i c; cases h; exact if_pos c
        · rename_i c3
          split at h
          · rename_i c; cases h; exact (if_neg c3).trans (if_pos c)
          · rename_i c4
            split at h
            · cases h
            · rename_i c5
              cases h; exact (if_neg c3).trans ((if_neg c4).trans (if_neg c5))
  · rename_i hne
    have hq : swTV ts v = none := by
      cases hq : swTV ts v with
      | none => rfl
      | some p =>
        exfalso
        unfold swTV at hq
        split at hq
        · cases hq; exact hne _ _ rfl
        · cases hq; exact hne _ _ rfl
        · cases hq
    unfold swB at h
    rw [hq] at h
    cases h
    rfl

def isComp : Expr → Bool
  | .ListComp .. | .SetComp .. | .DictComp .. => true
  | _ => false
def subE : Expr → Bool
  | .Subscript .. => true
  | _ => false
theorem swap_no {e tg : Expr} {l : Nat} {env : Env} (h : isComp e = false ∨ nameE tg = false) : swapsWithSole [tg] e l env = pure false := by
  show swapsWith e (some tg) l env = pure false
  cases e <;> first
    | rfl
    | (rcases h with h | h
       · cases h
       · cases tg <;> first | rfl | cases h)
theorem swap_none {e : Expr} {l : Nat} {env : Env} (h : isComp e = false) : swapsWith e none l env = pure false := by
  cases e <;> first | rfl | cases h
/-- name = [..]: on one line, the name a local that is no own name of the comprehension -/
def swYes (sc : Scope) (y : Str) (py : Pos) : Expr → Bool
  | .ListComp _ _ scope pos => decide (sc.kind = .function) && (decide (sc.names.lookup y = some .local) && ((py.line == pos.line) && !(scope.names.any fun (n, k) => n == y && (k == .local || k == .cell))))
  | _ => false
/-! ### compile -/
mutual
def cS : Nat → Ctx → Stmt → Option IS
  | 0, _, _ => none
  | n + 1, c, st => match st with
    | .Expr e _ => if isComp e = false then (cE n c e).bind fun e' => some (.expr e') else none
    | .Assign [.Name x py] (.ListComp elt [⟨tg, it, ifs, as⟩] scope pos) _ =>
      if swYes c.sc x py (.ListComp elt [⟨tg, it, ifs, as⟩] scope pos) = true then
        (cE n c (.ListComp elt [⟨tg, it, ifs, as⟩] scope pos)).bind fun e' => (c.slot x).bind fun i => some (.asg (.var i) e')
      else none
    | .Assign [.Subscript o i _] e _ => if noSlice i = true then (cE n c e).bind fun e' => (cE n c o).bind fun o' => (cE n c i).bind fun i' => some (.setI o' i' e') else none
    | .Assign [.Tuple [.Name x px, .Name y py] k pt] (.Tuple [a, b] k2 p2) _ =>
      if swB c.sc [.Tuple [.Name x px, .Name y py] k pt] (.Tuple [a, b] k2 p2) = some (some [x, y]) then
        if c.sc.names.lookup x = some .local ∧ c.sc.names.lookup y = some .local then
          (cEs n c [a, b]).bind fun l => (c.slot x).bind fun i => (c.slot y).bind fun j => if i ≠ j then some (.asg (.tup [.var i, .var j]) (.tup l)) else none
        else none
      else if swB c.sc [.Tuple [.Name x px, .Name y py] k pt] (.Tuple [a, b] k2 p2) = some none then
        (cTg c n (.Tuple [.Name x px, .Name y py] k pt)).bind fun t => (cE n c (.Tuple [a, b] k2 p2)).bind fun e' => some (.asg t e')
      else none
    | .Assign [.Tuple [.Name x px, .Name y py, .Name z pz] k pt] (.Tuple [a, b, d] k2 p2) _ =>
      if swB c.sc [.Tuple [.Name x px, .Name y py, .Name z pz] k pt] (.Tuple [a, b, d] k2 p2) = some (some [x, y, z]) then
        if c.sc.names.lookup x = some .local ∧ c.sc.names.lookup y = some .local ∧ c.sc.names.lookup z = some .local then
          (cEs n c [a, b, d]).bind fun l => (c.slot x).bind fun i => (c.slot y).bind fun j => (c.slot z).bind fun h => if i ≠ j ∧ i ≠ h ∧ j ≠ h then some (.asg (.tup [.var i, .var j, .var h]) (.tup l)) else none
        else none
      else if swB c.sc [.Tuple [.Name x px, .Name y py, .Name z pz] k pt] (.Tuple [a, b, d] k2 p2) = some none then
        (cTg c n (.Tuple [.Name x px, .Name y py, .Name z pz] k pt)).bind fun t => (cE n c (.Tuple [a, b, d] k2 p2)).bind fun e' => some (.asg t e')
      else none
    | .Assign [tg] e _ => if (isComp e = false ∨ nameE tg = false) ∧ subE tg = false ∧ swB c.sc [tg] e = some none then
        (cTg c n tg).bind fun t => (cE n c e).bind fun e' => some (.asg t e') else none
    | .AugAssign (.Name x p) op e _ => if op = .Add ∨ op = .Sub ∨ op = .Mult then (match cTg c 1 (.Name x p) with
      | some (.var i) => (cE n c e).bind fun e' => some (.aug i op e')
      | _ => none) else none
    | .If t a b _ => (cE n c t).bind fun t' => (cB n c a).bind fun a' => (cB n c b).bind fun b' => some (.ifS t' a' b')
    | .While t b [] _ => (cE n c t).bind fun t' => (cB n c b).bind fun b' => some (.whl t' b')
    | .For tg it b [] _ => if plainE it = true then (cI n c tg it).bind fun it' => (cTg c n tg).bind fun tg' => (cB n c b).bind fun b' => some (.forS tg' it' b') else none
    | .Return (some e) _ => (cE n c e).bind fun e' => some (.ret e')
    | .Return none _ => some .retN
    | .Raise (some (.Call (.Name x _) [.Constant (.str _) _ _] [] _)) none _ => if c.isGl x = true ∧ x ∈ c.exs then some (.rais x) else none
    | .Pass _ => some .pass
    | .Break _ => some .brk
    | .Continue _ => some .cnt
    | _ => none
def cB : Nat → Ctx → List Stmt → Option (List IS)
  | 0, _, _ => none
  | n + 1, c, ss => match ss with
    | [] => some []
    | s :: r => (cS n c s).bind fun s' => (cB n c r).bind fun r' => some (s' :: r')
end
/-! ### what holds behind a statement -/
def ThenO (K : PySem.W.Frag) (T : List (Addr × Str)) (ρ : List Addr) (H : Hp) (D : Ends) (W : WX) : Out → Prop
  | .nx env m => ∀ ρ' H' σ', Ext ρ H ρ' H' → Sto K T ρ' H' m → REnv K ρ' H' env σ' → D.nx σ' H'
  | .rt d m => ∀ ρ' H' v, Ext ρ H ρ' H' → Sto K T ρ' H' m → RelD K ρ' H' d v → D.rt v H'
  | .bk env m => ∀ ρ' H' σ', Ext ρ H ρ' H' → Sto K T ρ' H' m → REnv K ρ' H' env σ' → D.bk σ' H'
  | .ct env m => ∀ ρ' H' σ', Ext ρ H ρ' H' → Sto K T ρ' H' m → REnv K ρ' H' env σ' → D.ct σ' H'
  | .exn c p env m => ∀ ρ' H' σ', Ext ρ H ρ' H' → Sto K T ρ' H' m → REnv K ρ' H' env σ' → ∀ dd, RelP K ρ' H' p dd → W (.ref (He.ga K c)) dd σ' H'
  | .stuck => False
section
variable {K : PySem.W.Frag} {T : List (Addr × Str)} {C : Ctl} {W : WX} {ρ ρ1 : List Addr} {H H1 : Hp} {m : Mem} {env : EnvD} {σ : L2.St} {D : Ends}
theorem ThenO.ext {o : Out} (h : ThenO K T ρ H D W o) (E : Ext ρ H ρ1 H1) : ThenO K T ρ1 H1 D W o := by
  cases o with
  | nx env m => exact fun ρ' H' σ' E' => h ρ' H' σ' (E.trans E')
  | rt env m => exact fun ρ' H' σ' E' => h ρ' H' σ' (E.trans E')
  | bk env m => exact fun ρ' H' σ' E' => h ρ' H' σ' (E.trans E')
  | ct env m => exact fun ρ' H' σ' E' => h ρ' H' σ' (E.trans E')
  | exn c p env m => exact fun ρ' H' σ' E' => h ρ' H' σ' (E.trans E')
  | stuck => exact h
theorem ThenO.seq {o : Out} {f : EnvD → Mem → Out} (h : ThenO K T ρ H D W (o.seq f)) :
    ThenO K T ρ H { D with nx := fun σ' H' => ∃ ρ' m env, Sto K T ρ' H' m ∧ REnv K ρ' H' env σ' ∧ ThenO K T ρ' H' D W (f env m) } W o := by
  cases o with
  | nx env m => exact fun ρ' H' σ' E S R => ⟨ρ', m, env, S, R, ThenO.ext (o := f env m) h E⟩
  | rt env m => exact h
  | bk env m => exact h
  | ct env m => exact h
  | exn c p env m => exact h
  | stuck => exact h
/-- behind an expression -/
theorem ThenO.out {α : Type} {r : Res α} {f : α → Mem → Out} (S : Sto K T ρ H m) (R : REnv K ρ H env σ) (h : ThenO K T ρ H D W (r.out env f)) :
    Then K T ρ H r (fun a m1 ρ1 H1 => ThenO K T ρ1 H1 D W (f a m1)) (exW K W σ) := by
  cases r with
  | ok a m1 => exact fun ρ' H' E S' => ThenO.ext (o := f a m1) h E
  | exn c p m1 => exact fun ρ' H' E S' dd rp => h ρ' H' σ E S' (R.mono S E) dd rp
  | stuck => exact h
/-- .. with a forgetting -/
theorem ThenO.outgc {r : Res Dat.D} {f : Dat.D → Mem → Out} {D : Ends} (S : Sto K T ρ H m) (R : REnv K ρ H env σ) (h : ThenO K T ρ H D W ((r.gc m.length).out env f)) :
    Then K T ρ H r (fun a m1 ρ1 H1 => ∀ v, RelD K ρ1 H1 a v → ∃ ρ2 m2, Ext ρ H ρ2 H1 ∧ Sto K T ρ2 H1 m2 ∧ REnv K ρ2 H1 env σ ∧ RelD K ρ2 H1 a v ∧ ThenO K T ρ2 H1 D W (f a m2)) (exW K W σ) := by
  cases r with
  | ok a m1 =>
    intro ρ' H' E S' v rv
    obtain ⟨ρ2, E2, S2, r2⟩ := gc_ok E S' S.len rv
    exact ⟨ρ2, _, E2, S2, R.mono S E2, r2, ThenO.ext (o := f a _) h E2⟩
  | exn c p m1 => exact fun ρ' H' E S' dd rp => h ρ' H' σ E S' (R.mono S E) dd rp
  | stuck => exact h
theorem ThenO.outT {r : Res Dat.D} {f : Bool → Mem → Out} {D : Ends} (S : Sto K T ρ H m) (R : REnv K ρ H env σ) (h : ThenO K T ρ H D W (tstO env r m.length f)) :
    Then K T ρ H r (fun a m1 ρ1 H1 => ∃ b, a = .bl b ∧ ∃ ρ2 m2, Ext ρ H ρ2 H1 ∧ Sto K T ρ2 H1 m2 ∧ REnv K ρ2 H1 env σ ∧ ThenO K T ρ2 H1 D W (f b m2)) (exW K W σ) := by
  cases r with
  | ok a m1 =>
    intro ρ' H' E S'
    cases a with
    | bl b =>
      obtain ⟨ρ2, E2, S2, r2⟩ := gc_ok E S' S.len (.bl b)
      exact ⟨b, rfl, ρ2, _, E2, S2, R.mono S E2, ThenO.ext (o := f b _) h E2⟩
    | _ => exact (show False from h).elim
  | exn c p m1 => exact fun ρ' H' E S' dd rp => h ρ' H' σ E S' (R.mono S E) dd rp
  | stuck => exact h
theorem Res.bind_gc {α : Type} {n : Nat} {r : Res α} {f : α → Mem → Res Dat.D} : (r.bind f).gc n = r.bind fun a m => (f a m).gc n := by
  cases r <;> rfl
theorem gcs_ok {ρ' : List Addr} {H' : Hp} {n : Nat} {a : List Dat.D} {v : List V} {m' : Mem} (E : Ext ρ H ρ' H') (S' : Sto K T ρ' H' m') (hn : ρ.length = n) (r : RelDs K ρ' H' a v) :
    ∃ ρ2, Ext ρ H ρ2 H' ∧ Sto K T ρ2 H' (gcM n (.tup a) m') ∧ RelDs K ρ2 H' a v := by
  unfold gcM
  split
  · rename_i h
    exact ⟨_, E.cut hn, S'.cut h.2, r.cut (by simpa [D.undr] using h.1)⟩
  · exact ⟨_, E, S', r⟩
end
section
variable (K : PySem.W.Frag) (T : List (Addr × Str)) (C : Ctl) (W : WX)
def tS (ir : IS) : TS := fun D σ H => ∃ ρ m env, Sto K T ρ H m ∧ REnv K ρ H env σ ∧ ThenO K T ρ H D W (evalS C ir env m)
def tB (ir : List IS) : TS := fun D σ H => ∃ ρ m env, Sto K T ρ H m ∧ REnv K ρ H env σ ∧ ThenO K T ρ H D W (evalB C ir env m)
end
theorem PS.imp {X : Cx} {e : Stmt} {t t' : TS} (h : PS X e t) (i : ∀ D σ H, t' D σ H → t D σ H) : PS X e t' := ⟨fun pins s σ H D I q => h.run pins s σ H D I (i D σ H q)⟩
theorem PSs.imp {X : Cx} {e : List Stmt} {t t' : TS} (h : PSs X e t) (i : ∀ D σ H, t' D σ H → t D σ H) : PSs X e t' := ⟨fun pins s σ H D I q => h.run pins s σ H D I (i D σ H q)⟩
abbrev OkS (X : Cx) (T : List (Addr × Str)) (C : Ctl) (W : WX) (s : Stmt) (ir : IS) : Prop := PS X s (tS X.K T C W ir)
abbrev OkB (X : Cx) (T : List (Addr × Str)) (C : Ctl) (W : WX) (s : List Stmt) (ir : List IS) : Prop := PSs X s (tB X.K T C W ir)
section
variable {X : Cx} {T : List (Addr × Str)} {C : Ctl} {W : WX} {c : Ctx} {Pg : Prog} {lv : Nat} {n : Nat}
theorem okb_nil : OkB X T C W [] [] := by
  refine PSs.imp pss_nil fun D σ H ⟨ρ, m, env, S, R, q⟩ => ?_
  unfold evalB at q
  exact q ρ H σ (Ext.refl _ _) S R
theorem okb_cons {s : Stmt} {r : List Stmt} {s' : IS} {r' : List IS} (h1 : OkS X T C W s s') (h2 : OkB X T C W r r') : OkB X T C W (s :: r) (s' :: r') := by
  refine PSs.imp (pss_cons h1 h2) fun D σ H ⟨ρ, m, env, S, R, q⟩ => ?_
  unfold evalB at q
  exact ⟨ρ, m, env, S, R, q.seq⟩
theorem oks_expr {e : Expr} {e' : IE} {pos : Pos} (hc : isComp e = false) (h : OkE X T C W e e') : OkS X T C W (.Expr e pos) (.expr e') := by
  refine PS.imp (ps_expr h (swap_none hc)) fun D σ H ⟨ρ, m, env, S, R, q⟩ => ?_
  unfold evalS at q
  have e0 : (((evalE e' C env m).bind fun _ m1 => (Res.ok .non m1).gc m.length).out env fun _ m1 => Out.nx env m1) = (((evalE e' C env m).bind fun _ m1 => (Res.ok .non m1)).gc m.length).out env fun _ m1 => Out.nx env m1 := by
    cases evalE e' C env m <;> rfl
  rw [e0] at q
  have q1 := (q.outgc S R).bind
  refine ⟨ρ, m, env, S, R, q1.imp (fun d m1 ρ1 H1 E1 S1 q2 v r => ?_) fun _ _ _ _ _ _ _ z => z⟩
  obtain ⟨ρ2, m2, E2, S2, R2, _, q3⟩ := q2 ρ1 H1 (Ext.refl _ _) S1 .non .non
  exact q3 ρ2 H1 σ (Ext.refl _ _) S2 R2
theorem oks_asg {tg e : Expr} {t : Tg} {e' : IE} {pos : Pos} (hc : isComp e = false ∨ nameE tg = false) (hp : plainE tg = true) (hsw : swappedStores [tg] e X.env = pure none) (hg : PG X tg (gT X.K T t)) (h : OkE X T C W e e') :
    OkS X T C W (.Assign [tg] e pos) (.asg t e') := by
  refine PS.imp (ps_asg h hg (swap_no hc) hsw (by rw [asgEach_cons hp] <;> rfl)) fun D σ H ⟨ρ, m, env, S, R, q⟩ => ?_
  unfold evalS at q
  refine ⟨ρ, m, env, S, R, (q.outgc S R).imp (fun d m1 ρ1 H1 E1 S1 q1 v r => ?_) fun _ _ _ _ _ _ _ z => z⟩
  obtain ⟨ρ2, m2, E2, S2, R2, r2, q3⟩ := q1 v r
  cases ha : asgT m2 t d env with
  | none => rw [ha] at q3; exact (show False from q3).elim
  | some e1 =>
    rw [ha] at q3
    exact ⟨ρ2, m2, env, d, e1, S2, R2, r2, ha, fun σ' R' _ => q3 ρ2 H1 σ' (Ext.refl _ _) S2 R'⟩
theorem oks_set {o i e : Expr} {o' i' e' : IE} {p pos : Pos} (hi : noSlice i = true) (ho : OkE X T C W o o') (hI : OkE X T C W i i') (he : OkE X T C W e e') :
    OkS X T C W (.Assign [.Subscript o i p] e pos) (.setI o' i' e') := by
  have hw : swappedStores [.Subscript o i p] e X.env = pure none := sw_ok (sc := X.env.scope) rfl (by unfold swB swTV; cases e <;> rfl)
  refine PS.imp (ps_asg he (pg_sub ho hI set_list (by cases i <;> first | (intro _; rfl) | cases hi)) (swap_no (.inr rfl)) hw) fun D σ H ⟨ρ, m, env, S, R, q⟩ => ?_
  unfold evalS at q
  simp only [← Res.bind_gc] at q
  have q2 := (q.outgc S R).bind
  refine ⟨ρ, m, env, S, R, q2.imp (fun dv m1 ρ1 H1 E1 S1 q3 v rv => ?_) fun _ _ _ _ _ _ _ z => z⟩
  have R1 := R.mono S E1
  refine ⟨ρ1, m1, env, S1, R1, q3.bind.imp (fun da m2 ρ2 H2 E2 S2 q4 va ra => ?_) fun _ _ _ _ _ _ _ z => z⟩
  refine ⟨ρ2, m2, env, S2, R1.mono S1 E2, q4.bind.imp (fun dk m3 ρ3 H3 E3 S3 q5 vk rk => ?_) fun _ _ _ _ _ _ _ z => z⟩
  have rv3 := (rv.mono S1 E2).mono S2 E3
  have ra3 := ra.mono S2 E3
  have q6 := q5.bind
  unfold setD at q6
  split at q6
  case h_2 => exact (show False from q6).elim
  rename_i a k
  split at q6
  case h_2 => exact (show False from q6).elim
  rename_i xs hx
  split at q6
  case h_2 => exact (show False from q6).elim
  rename_i j hj
  cases ra3 with
  | ref ea =>
  cases rk
  obtain ⟨vs, h1, r1⟩ := lst_at S3 ea hx
  refine ⟨_, vs, k, j, rfl, rfl, h1, by rw [← r1.length]; exact hj, ?_⟩
  obtain ⟨E4, S4⟩ := S3.write ea (r1.set j rv3)
  obtain ⟨ρ5, m5, E5, S5, R5, _, q7⟩ := q6 _ _ E4 S4 _ _ (Ext.refl _ _) S4 .non .non
  exact q7 ρ5 _ σ (Ext.refl _ _) S5 R5
theorem oks_if {t : Expr} {a b : List Stmt} {t' : IE} {a' b' : List IS} {pos : Pos} (ht : OkT X T C W t t') (ha : OkB X T C W a a') (hb : OkB X T C W b b') : OkS X T C W (.If t a b pos) (.ifS t' a' b') := by
  refine PS.imp (ps_if ht ha hb) fun D σ H ⟨ρ, m, env, S, R, q⟩ => ?_
  unfold evalS at q
  refine ⟨ρ, m, env, S, R, (q.outT S R).imp (fun d m1 ρ1 H1 E1 S1 ⟨b, e, ρ2, m2, E2, S2, R2, q3⟩ => ⟨b, e, ?_⟩) fun _ _ _ _ _ _ _ z => z⟩
  cases b with
  | true => exact ⟨ρ2, m2, env, S2, R2, q3⟩
  | false => exact ⟨ρ2, m2, env, S2, R2, q3⟩
theorem oks_whl {t : Expr} {b : List Stmt} {t' : IE} {b' : List IS} {pos : Pos} (G : Good c C Pg lv T X W) (ht : OkT X T C W t t') (hb : OkB X T C W b b') : OkS X T C W (.While t b [] pos) (.whl t' b') := by
  refine PS.imp (ps_while G.po ht hb) fun D σ H ⟨ρ, m, env, S, R, q⟩ => ?_
  unfold evalS at q
  refine ⟨fun k σ H => ∃ ρ m env, Sto X.K T ρ H m ∧ REnv X.K ρ H env σ ∧ ThenO X.K T ρ H D W (whileN (fun e m1 => evalE t' C e m1) (fun e m1 => evalB C b' e m1) k env m), ⟨_, ρ, m, env, S, R, q⟩, ?_⟩
  rintro k σ H ⟨ρ, m, env, S, R, q⟩
  cases k with
  | zero => exact (show False from q).elim
  | succ k =>
    unfold whileN at q
    refine ⟨ρ, m, env, S, R, (q.outT S R).imp (fun d m1 ρ1 H1 E1 S1 ⟨b, e, ρ2, m2, E2, S2, R2, q3⟩ => ⟨b, e, ?_⟩) fun _ _ _ _ _ _ _ z => z⟩
    cases b with
    | false => exact q3 ρ2 H1 σ (Ext.refl _ _) S2 R2
    | true =>
      rw [if_pos rfl] at q3
      refine ⟨fun σ H => ∃ ρ m env, Sto X.K T ρ H m ∧ REnv X.K ρ H env σ ∧ ThenO X.K T ρ H D W (whileN (fun e m1 => evalE t' C e m1) (fun e m1 => evalB C b' e m1) k env m), fun σ' H' z => ⟨k, Nat.lt_succ_self _, z⟩, ρ2, m2, env, S2, R2, ?_⟩
      cases eb : evalB C b' env m2 with
      | nx e m3 => rw [eb] at q3; exact fun ρ' H' σ' E S R => ⟨ρ', m3, e, S, R, ThenO.ext q3 E⟩
      | ct e m3 => rw [eb] at q3; exact fun ρ' H' σ' E S R => ⟨ρ', m3, e, S, R, ThenO.ext q3 E⟩
      | bk e m3 => rw [eb] at q3; exact q3
      | rt d m3 => rw [eb] at q3; exact q3
      | exn _ _ _ _ => rw [eb] at q3; exact q3
      | stuck => rw [eb] at q3; exact q3
theorem oks_for {tg it : Expr} {b : List Stmt} {t' : Tg} {it' : II} {b' : List IS} {pos : Pos} (G : Good c C Pg lv T X W) (pl : plainE it = true) (hi : OkI X T C W tg it it') (hg : PG X tg (gT X.K T t')) (hb : OkB X T C W b b') :
    OkS X T C W (.For tg it b [] pos) (.forS t' it' b') := by
  refine PS.imp (ps_for G.po G.calm hi hg hb (noFold pl _)) fun D σ H ⟨ρ, m, env, S, R, q⟩ => ?_
  unfold evalS at q
  refine ⟨ρ, m, env, S, R, (q.out S R).imp (fun I m1 ρ1 H1 E1 S1 q1 J hJ => ?_) fun _ _ _ _ _ _ _ z => z⟩
  have R1 := R.mono S E1
  refine ⟨fun i k σ H => k = I.1.length - i ∧ i ≤ I.1.length ∧ ∃ ρ m env, Ext ρ1 H1 ρ H ∧ Sto X.K T ρ H m ∧ REnv X.K ρ H env σ ∧ ThenO X.K T ρ H D W (forL I.2 t' (fun e m2 => evalB C b' e m2) (I.1.drop i) env m),
    ⟨I.1.length, by simp, Nat.zero_le _, ρ1, m1, env, Ext.refl _ _, S1, R1, q1⟩, ?_⟩
  rintro i k σ2 H2 ⟨rfl, hi, ρ2, m2, env2, E2, S2, R2, q2⟩
  by_cases hlt : i < I.1.length
  · refine .inr ?_
    have hd : I.1[i]? = some I.1[i] := List.getElem?_eq_getElem hlt
    rw [List.drop_eq_getElem_cons hlt] at q2
    unfold forL at q2
    split at q2
    case isFalse => exact (show False from q2).elim
    rename_i hc
    obtain ⟨hgo, hyld⟩ := (hJ i ρ2 H2 m2 E2 S2 hc).1 _ hd
    refine ⟨hgo, fun σ' H' => ∃ ρ m env, Ext ρ1 H1 ρ H' ∧ Sto X.K T ρ H' m ∧ REnv X.K ρ H' env σ' ∧ ThenO X.K T ρ H' D W (forL I.2 t' (fun e m2 => evalB C b' e m2) (I.1.drop (i + 1)) env m),
      fun σ' H' z => ⟨I.1.length - (i + 1), by omega, rfl, hlt, z⟩, fun x H3 y => ?_⟩
    obtain ⟨E3, S3, rx⟩ := hyld x H3 y
    cases ha : asgT m2 t' I.1[i] env2 with
    | none => rw [ha] at q2; exact (show False from q2).elim
    | some e1 =>
      rw [ha] at q2
      refine ⟨ρ2, m2, env2, _, e1, S3, R2.mono S2 E3, rx, ha, fun σ4 R4 _ => ⟨ρ2, m2, e1, S3, R4, ?_⟩⟩
      have q3 := ThenO.ext q2 E3
      simp only at q3
      have E13 := E2.trans E3
      cases eb : evalB C b' e1 m2 with
      | nx e m3 => rw [eb] at q3; exact fun ρ' H' σ' E S R => ⟨ρ', m3, e, E13.trans E, S, R, ThenO.ext q3 E⟩
      | ct e m3 => rw [eb] at q3; exact fun ρ' H' σ' E S R => ⟨ρ', m3, e, E13.trans E, S, R, ThenO.ext q3 E⟩
      | bk e m3 => rw [eb] at q3; exact q3
      | rt d m3 => rw [eb] at q3; exact q3
      | exn _ _ _ _ => rw [eb] at q3; exact q3
      | stuck => rw [eb] at q3; exact q3
  · refine .inl ?_
    have e0 : i = I.1.length := by omega
    subst e0
    rw [List.drop_length] at q2
    unfold forL at q2
    split at q2
    case isFalse => exact (show False from q2).elim
    rename_i hc
    exact ⟨(hJ _ ρ2 H2 m2 E2 S2 hc).2 (Nat.le_refl _), q2 ρ2 H2 σ2 (Ext.refl _ _) S2 R2⟩
theorem oks_ret {e : Expr} {e' : IE} {pos : Pos} (h : OkE X T C W e e') : OkS X T C W (.Return (some e) pos) (.ret e') := by
  refine PS.imp (ps_ret h) fun D σ H ⟨ρ, m, env, S, R, q⟩ => ?_
  unfold evalS at q
  exact ⟨ρ, m, env, S, R, (q.out S R).imp (fun d m1 ρ1 H1 E1 S1 q1 v r => q1 ρ1 H1 v (Ext.refl _ _) S1 r) fun _ _ _ _ _ _ _ z => z⟩
theorem oks_retN {pos : Pos} : OkS X T C W (.Return none pos) .retN := by
  refine PS.imp ps_retN fun D σ H ⟨ρ, m, env, S, R, q⟩ => ?_
  unfold evalS at q
  exact q ρ H .non (Ext.refl _ _) S .non
theorem oks_pass {pos : Pos} : OkS X T C W (.Pass pos) .pass := by
  refine PS.imp ps_pass fun D σ H ⟨ρ, m, env, S, R, q⟩ => ?_
  unfold evalS at q
  exact q ρ H σ (Ext.refl _ _) S R
theorem oks_brk {pos : Pos} : OkS X T C W (.Break pos) .brk := by
  refine PS.imp ps_break fun D σ H ⟨ρ, m, env, S, R, q⟩ => ?_
  unfold evalS at q
  exact q ρ H σ (Ext.refl _ _) S R
theorem oks_cnt {pos : Pos} : OkS X T C W (.Continue pos) .cnt := by
  refine PS.imp ps_continue fun D σ H ⟨ρ, m, env, S, R, q⟩ => ?_
  unfold evalS at q
  exact q ρ H σ (Ext.refl _ _) S R
theorem oks_rais {x t : Str} {p p2 p3 pos : Pos} {j : Nat} (G : Good c C Pg lv T X W) (hg : c.isGl x = true) (hx : x ∈ c.exs) : OkS X T C W (.Raise (some (.Call (.Name x p) [.Constant (.str t) j p2] [] p3)) none pos) (.rais x) := by
  obtain ⟨h1, h2, h3, h4⟩ := G.exs x hx
  refine PS.imp (L2.ps_raise G.calm G.tk (L2.pmk_own PySem.F.excBase_ValueError h1 h2 h3 h4 (G.gl hg) (isGl_of hg).2.1)) fun D σ H ⟨ρ, m, env, S, R, q⟩ => ?_
  unfold evalS at q
  exact q ρ H σ (Ext.refl _ _) S R none trivial
theorem ip_mulX : PIp X .Mult (fun x y H Q => ∃ i j : Int, x = .int i ∧ y = .int j ∧ MulG i j ∧ Q (.int (i * j)) H) := by
  intro pins s σ H x y v u Q I r1 r2 h
  obtain ⟨i, j, e1, e2, hc, q⟩ := h
  subst e1; subst e2
  obtain ⟨t, rfl⟩ := r1
  obtain ⟨t', rfl⟩ := r2
  exact PyProof.Rows.imul_int ⟨.int _, H, I.tok _, ⟨_, rfl⟩, q⟩ (CMulX.ok hc)
theorem aug_go {x : Str} {i : Nat} {e : Expr} {e' : IE} {op : Operator} {p pos : Pos} {Gd : Int → Int → Prop} {f : Int → Int → Int} (G : Good c C Pg lv T X W) (hi : X.N[i]? = some x) (hl : L2.Loc X.env.scope x) (h : OkE X T C W e e')
    (hp : PIp X op (fun x y H Q => ∃ i j : Int, x = .int i ∧ y = .int j ∧ Gd i j ∧ Q (.int (f i j)) H)) (hb : ∀ a b m, binD op (.int a) (.int b) m ≠ .stuck → Gd a b ∧ binD op (.int a) (.int b) m = .ok (.int (f a b)) m) (hf : X.fn x = true) :
    OkS X T C W (.AugAssign (.Name x p) op e pos) (.aug i op e') := by
  refine PS.imp (ps_aug (ti := fun x y H Q => ∃ i j : Int, x = .int i ∧ y = .int j ∧ Gd i j ∧ Q (.int (f i j)) H) G.nd hi hl h hp (.inl hf)) fun D σ H ⟨ρ, m, env, S, R, q⟩ => ?_
  unfold evalS at q
  split at q
  case h_2 => exact (show False from q).elim
  rename_i dx hx
  obtain ⟨vx, h1, rx⟩ := R.2 _ _ hx
  refine ⟨vx, h1, ρ, m, env, S, R, (q.out S R).bind.imp (fun dy m1 ρ1 H1 E1 S1 q1 vy ry => ?_) fun _ _ _ _ _ _ _ z => z⟩
  split at q1
  · rename_i a b
    cases rx
    cases ry
    obtain ⟨hg, e⟩ := hb a b m1 q1.ne
    rw [e] at q1
    exact ⟨a, b, rfl, rfl, hg, q1 ρ1 H1 (Ext.refl _ _) S1 ρ1 H1 _ (Ext.refl _ _) S1 ((R.mono S E1).set (.int _))⟩
  · exact (show False from q1).elim
theorem oks_aug {x : Str} {i : Nat} {e : Expr} {e' : IE} {op : Operator} {p pos : Pos} (G : Good c C Pg lv T X W) (hbk : c.blk = false) (ho : op = .Add ∨ op = .Sub ∨ op = .Mult) (hi : cTg c 1 (.Name x p) = some (.var i)) (h : OkE X T C W e e') :
    OkS X T C W (.AugAssign (.Name x p) op e pos) (.aug i op e') := by
  simp only [cTg] at hi
  split at hi
  case h_2 => cases hi
  rename_i i' hs
  split at hi
  case isFalse => cases hi
  rename_i hk
  cases hi
  obtain ⟨h1, h2, h3⟩ := slot_ok hs
  have hloc : L2.Loc X.env.scope x := by
    rw [G.sc]
    rcases hk with z | z
    · exact .inl z
    · exact .inr z.1
  rcases ho with rfl | rfl | rfl
  · exact aug_go (Gd := fun _ _ => True) (f := fun a b => a + b) G (by rw [G.hN]; exact h1) hloc h (fun pins s σ H x y v u Q I r1 r2 ⟨i, j, e1, e2, _, q⟩ => ip_add pins s σ H x y v u Q I r1 r2 ⟨i, j, e1, e2, q⟩) (fun a b m _ => ⟨trivial, rfl⟩) (G.fn hbk x)
  · exact aug_go (Gd := fun _ _ => True) (f := fun a b => a - b) G (by rw [G.hN]; exact h1) hloc h (fun pins s σ H x y v u Q I r1 r2 ⟨i, j, e1, e2, _, q⟩ => ip_sub pins s σ H x y v u Q I r1 r2 ⟨i, j, e1, e2, q⟩) (fun a b m _ => ⟨trivial, rfl⟩) (G.fn hbk x)
  · refine aug_go (Gd := MulG) (f := fun a b => a * b) G (by rw [G.hN]; exact h1) hloc h ip_mulX (fun a b m hn => ?_) (G.fn hbk x)
    simp only [binD, mulD] at hn ⊢
    split at hn
    · rename_i hc
      exact ⟨hc, by rw [if_pos hc]⟩
    · exact absurd rfl hn
theorem par_go {l : List IE} {t : Tg} {D : Ends} {ρ : List Addr} {H : Hp} {m : Mem} {env : EnvD} {σ : L2.St} {K : PySem.W.Frag} {R2 : List V → Hp → Prop} (S : Sto K T ρ H m) (R : REnv K ρ H env σ) (q : ThenO K T ρ H D W (evalS C (.asg t (.tup l)) env m))
    (k : ∀ (ds : List Dat.D) (vs : List V) (m2 : Mem) (ρ2 : List Addr) (H2 : Hp) (e1 : EnvD), REnv K ρ2 H2 env σ → RelDs K ρ2 H2 ds vs → asgT m2 t (.tup ds) env = some e1 → (∀ σ', REnv K ρ2 H2 e1 σ' → D.nx σ' H2) → R2 vs H2) :
    tA K T C W l σ H R2 := by
  unfold evalS evalE at q
  refine ⟨ρ, m, env, S, R, ?_⟩
  cases eE : evalEs l C env m with
  | stuck => rw [eE] at q; exact q
  | exn c p m1 => rw [eE] at q; exact fun ρ' H' E S' dd rp => q ρ' H' σ E S' (R.mono S E) dd rp
  | ok ds m1 =>
    rw [eE] at q
    simp only [Res.bind] at q
    by_cases hz : ds.length ≤ sizeLine
    · rw [if_pos hz] at q
      simp only [Res.gc, Res.out] at q
      intro ρ1 H1 E1 S1 vs r
      obtain ⟨ρ2, E2, S2, r2⟩ := gcs_ok E1 S1 S.len r
      cases ha : asgT (gcM m.length (.tup ds) m1) t (.tup ds) env with
      | none => rw [ha] at q; exact (show False from q).elim
      | some e1 =>
        rw [ha] at q
        exact k ds vs _ ρ2 H1 e1 (R.mono S E2) r2 ha fun σ' R' => q ρ2 H1 σ' E2 S2 R'
    · rw [if_neg hz] at q
      exact (show False from q).elim
theorem oks_par {x y : Str} {a b : Expr} {i j : Nat} {l : List IE} {px py pt p2 pos : Pos} {k k2 : Nat} (G : Good c C Pg lv T X W) (hw : swB c.sc [.Tuple [.Name x px, .Name y py] k pt] (.Tuple [a, b] k2 p2) = some (some [x, y]))
    (hx : c.sc.names.lookup x = some .local) (hy : c.sc.names.lookup y = some .local) (hi : c.slot x = some i) (hj : c.slot y = some j) (hij : i ≠ j) (ha : OkA X T C W [a, b] l) :
    OkS X T C W (.Assign [.Tuple [.Name x px, .Name y py] k pt] (.Tuple [a, b] k2 p2) pos) (.asg (.tup [.var i, .var j]) (.tup l)) := by
  refine PS.imp (ps_par (i := i) (j := j) G.calm G.nd (by rw [G.hN]; exact (slot_ok hi).1) (by rw [G.hN]; exact (slot_ok hj).1) hij (by rw [G.sc]; exact hx) (by rw [G.sc]; exact hy) ha (sw_ok G.sc hw) rfl) fun D σ H ⟨ρ, m, env, S, R, q⟩ => ?_
  refine par_go S R q fun ds vs m2 ρ2 H2 e1 R1 r he hk => ?_
  simp only [asgT, seqD] at he
  cases r with
  | nil => simp [asgTs] at he
  | cons r1 r =>
    cases r with
    | nil => simp [asgTs] at he
    | cons r2 r =>
      cases r with
      | cons _ _ => simp [asgTs] at he
      | nil =>
        simp only [asgTs, asgT, Option.bind_eq_some_iff] at he
        obtain ⟨e2, h2, e3, h3, h4⟩ := he
        split at h2
        case isFalse => cases h2
        cases h2
        split at h3
        case isFalse => cases h3
        cases h3
        cases h4
        exact ⟨_, _, rfl, hk _ ((R1.set r1).set r2)⟩
theorem oks_par3 {x y z : Str} {a b d : Expr} {i j h : Nat} {l : List IE} {px py pz pt p2 pos : Pos} {k k2 : Nat} (G : Good c C Pg lv T X W) (hw : swB c.sc [.Tuple [.Name x px, .Name y py, .Name z pz] k pt] (.Tuple [a, b, d] k2 p2) = some (some [x, y, z]))
    (hx : c.sc.names.lookup x = some .local) (hy : c.sc.names.lookup y = some .local) (hz : c.sc.names.lookup z = some .local) (hi : c.slot x = some i) (hj : c.slot y = some j) (hh : c.slot z = some h) (hij : i ≠ j) (hih : i ≠ h) (hjh : j ≠ h) (ha : OkA X T C W [a, b, d] l) :
    OkS X T C W (.Assign [.Tuple [.Name x px, .Name y py, .Name z pz] k pt] (.Tuple [a, b, d] k2 p2) pos) (.asg (.tup [.var i, .var j, .var h]) (.tup l)) := by
  refine PS.imp (ps_par3 (i := i) (j := j) (l := h) G.calm G.nd (by rw [G.hN]; exact (slot_ok hi).1) (by rw [G.hN]; exact (slot_ok hj).1) (by rw [G.hN]; exact (slot_ok hh).1) hij hih hjh (by rw [G.sc]; exact hx) (by rw [G.sc]; exact hy) (by rw [G.sc]; exact hz) ha (sw_ok G.sc hw) rfl) fun D σ H ⟨ρ, m, env, S, R, q⟩ => ?_
  refine par_go S R q fun ds vs m2 ρ2 H2 e1 R1 r he hk => ?_
  simp only [asgT, seqD] at he
  cases r with
  | nil => simp [asgTs] at he
  | cons r1 r =>
    cases r with
    | nil => simp [asgTs] at he
    | cons r2 r =>
      cases r with
      | nil => simp [asgTs] at he
      | cons r3 r =>
        cases r with
        | cons _ _ => simp [asgTs] at he
        | nil =>
          simp only [asgTs, asgT, Option.bind_eq_some_iff] at he
          obtain ⟨e2, h2, e3, h3, e4, h4, h5⟩ := he
          split at h2
          case isFalse => cases h2
          cases h2
          split at h3
          case isFalse => cases h3
          cases h3
          split at h4
          case isFalse => cases h4
          cases h4
          cases h5
          exact ⟨_, _, _, rfl, hk _ (((R1.set r1).set r2).set r3)⟩
end
end Dat

/-! Dat15 -/
set_option linter.all false
set_option maxRecDepth 100000
set_option maxHeartbeats 4000000
/-! Dat15: every compiled statement. -/
namespace Dat
open PySem PySem.Spec L2 PyProof.Rows

def SndS (n : Nat) : Prop := ∀ (c : Ctx) (s : Stmt) (ir : IS), cS n c s = some ir → ∀ (C : Ctl) (Pg : Prog) (lv : Nat) (T : List (Addr × Str)) (X : Cx) (W : WX), Good c C Pg lv T X W → c.blk = false → OkS X T C W s ir
def SndB (n : Nat) : Prop := ∀ (c : Ctx) (s : List Stmt) (ir : List IS), cB n c s = some ir → ∀ (C : Ctl) (Pg : Prog) (lv : Nat) (T : List (Addr × Str)) (X : Cx) (W : WX), Good c C Pg lv T X W → c.blk = false → OkB X T C W s ir
section
variable {X : Cx} {T : List (Addr × Str)} {C : Ctl} {W : WX} {c : Ctx} {Pg : Prog} {lv : Nat} {n : Nat}
theorem swYes_ok {env : Env} {sc : Scope} {y : Str} {py : Pos} {elt : Expr} {gs : List Comprehension} {scope : Scope} {pos : Pos} {l : Nat} (hs : env.scope = sc) (h : swYes sc y py (.ListComp elt gs scope pos) = true) :
    swapsWith (.ListComp elt gs scope pos) (some (.Name y py)) l env = pure true ∧ sc.names.lookup y = some .local := by
  subst hs
  simp only [swYes, Bool.and_eq_true, decide_eq_true_eq, Bool.not_eq_true'] at h
  obtain ⟨h1, h2, h3, h4⟩ := h
  exact ⟨sw_true h1 h2 h3 h4, h2⟩
theorem snd_setc (x : Str) (py : Pos) (elt tg it : Expr) (ifs : List Expr) (scope : Scope) (pos spos : Pos) {ir : IE} {i : Nat} (h : cE n c (.ListComp elt [⟨tg, it, ifs, 0⟩] scope pos) = some ir) (hi : c.slot x = some i) (hy : swYes c.sc x py (.ListComp elt [⟨tg, it, ifs, 0⟩] scope pos) = true)
    (G : Good c C Pg lv T X W) : OkS X T C W (.Assign [.Name x py] (.ListComp elt [⟨tg, it, ifs, 0⟩] scope pos) spos) (.asg (.var i) ir) := by
  cases n with
  | zero => simp [cE] at h
  | succ n =>
  obtain ⟨HE, _, _, HI⟩ := snd_all n
  simp only [cE] at h
  split at h
  · rename_i hc
    simp only [Option.bind_eq_some_iff] at h
    obtain ⟨it', hi', tg', ht, t', hif, e', he, h⟩ := h
    split at h
    · rename_i hv
      cases h
      obtain ⟨hy1, hy2⟩ := swYes_ok (l := spos.line) G.sc hy
      have ok : BlkOk X.N X.env.scope scope (ownOf c.N scope) := by
        rw [G.hN, G.sc]
        exact blkOk_by hc.2.1
      refine PS.imp (ps_setLc (i := i) (own := ownOf c.N scope) (te := tE X.K T C W0 e') (tt := tT X.K T C W0 t') (g := gT X.K T tg') (wi := tI X.K T C W it') G.calm G.nd (by rw [G.hN]; exact (slot_ok hi).1) (by rw [G.sc]; exact hy2) hy1 (HI _ _ _ _ hi' _ _ _ _ _ _ G) ok (fun s H Ca cl fp => ok_tg (G.blk scope s H Ca cl fp) _ _ _ ht) (fun s H Ca cl fp => ?_) (fun s H Ca cl fp => (HE _ _ _ he _ _ _ _ _ _ (G.blk scope s H Ca cl fp)).1) (noFold hc.2.2 _)) fun D σ H ⟨ρ, m, env, S, R, q⟩ => ?_
      · cases ifs with
        | nil => cases hif; exact ok_yes
        | cons i r =>
          cases r with
          | nil => exact pts_one (HE _ _ _ hif _ _ _ _ _ _ (G.blk scope s H Ca cl fp)).2
          | cons _ _ => cases hif
      · unfold evalS at q
        refine comp_tlc (C := C) (W := W) (c := c) hv ⟨ρ, m, env, S, R, (q.outgc S R).imp (fun d m1 ρ1 H1 E1 S1 q1 v r => ?_) fun _ _ _ _ _ _ _ z => z⟩
        obtain ⟨ρ2, m2, E2, S2, R2, r2, q3⟩ := q1 v r
        simp only [asgT] at q3
        split at q3
        · rename_i e1 ha
          split at ha
          case isFalse => cases ha
          cases ha
          exact q3 ρ2 H1 _ (Ext.refl _ _) S2 (R2.set r2)
        · exact (show False from q3).elim
    · cases h
  · cases h
theorem snd_asg {tg e : Expr} {pos : Pos} {ir : IS} (hc : (isComp e = false ∨ nameE tg = false) ∧ subE tg = false ∧ swB c.sc [tg] e = some none) (h : ((cTg c n tg).bind fun t => (cE n c e).bind fun e' => some (IS.asg t e')) = some ir) (G : Good c C Pg lv T X W) : OkS X T C W (.Assign [tg] e pos) ir := by
  simp only [Option.bind_eq_some_iff] at h
  obtain ⟨t, ht, e', he, h⟩ := h
  cases h
  exact oks_asg hc.1 (cTg_plain ht) (sw_ok G.sc hc.2.2) (ok_tg G _ _ _ ht) ((snd_all n).1 _ _ _ he _ _ _ _ _ _ G).1
theorem snd_par2 {x y : Str} {a b : Expr} {px py pt p2 pos : Pos} {k k2 : Nat} {ir : IS} (h : cS (n + 1) c (.Assign [.Tuple [.Name x px, .Name y py] k pt] (.Tuple [a, b] k2 p2) pos) = some ir) (G : Good c C Pg lv T X W) : OkS X T C W (.Assign [.Tuple [.Name x px, .Name y py] k pt] (.Tuple [a, b] k2 p2) pos) ir := by
  simp only [cS] at h
  split at h
  · rename_i hw
    split at h
    · rename_i hl
      simp only [Option.bind_eq_some_iff] at h
      obtain ⟨l, hl2, i, hi, j, hj, h⟩ := h
      split at h
      · rename_i hij
        cases h
        exact oks_par G hw hl.1 hl.2 hi hj hij ((snd_all n).2.1 _ _ _ hl2 _ _ _ _ _ _ G)
      · cases h
    · cases h
  · split at h
    · rename_i hw
      exact snd_asg ⟨.inl rfl, rfl, hw⟩ h G
    · cases h
theorem snd_par3 {x y z : Str} {a b d : Expr} {px py pz pt p2 pos : Pos} {k k2 : Nat} {ir : IS} (h : cS (n + 1) c (.Assign [.Tuple [.Name x px, .Name y py, .Name z pz] k pt] (.Tuple [a, b, d] k2 p2) pos) = some ir) (G : Good c C Pg lv T X W) : OkS X T C W (.Assign [.Tuple [.Name x px, .Name y py, .Name z pz] k pt] (.Tuple [a, b, d] k2 p2) pos) ir := by
  simp only [cS] at h
  split at h
  · rename_i hw
    split at h
    · rename_i hl
      simp only [Option.bind_eq_some_iff] at h
      obtain ⟨l, hl2, i, hi, j, hj, hh, hhh, h⟩ := h
      split at h
      · rename_i hij
        cases h
        exact oks_par3 G hw hl.1 hl.2.1 hl.2.2 hi hj hhh hij.1 hij.2.1 hij.2.2 ((snd_all n).2.1 _ _ _ hl2 _ _ _ _ _ _ G)
      · cases h
    · cases h
  · split at h
    · rename_i hw
      exact snd_asg ⟨.inl rfl, rfl, hw⟩ h G
    · cases h
theorem snd_assign {ts : List Expr} {e : Expr} {pos : Pos} {ir : IS} (h : cS (n + 1) c (.Assign ts e pos) = some ir) (G : Good c C Pg lv T X W) : OkS X T C W (.Assign ts e pos) ir := by
  by_cases h1 : ∃ x py elt tg it ifs as scope p, ts = [.Name x py] ∧ e = .ListComp elt [⟨tg, it, ifs, as⟩] scope p
  · obtain ⟨x, py, elt, tg, it, ifs, as, scope, p, rfl, rfl⟩ := h1
    simp only [cS] at h
    split at h
    · rename_i hy
      simp only [Option.bind_eq_some_iff] at h
      obtain ⟨e', he, i, hi, h⟩ := h
      cases h
      have e0 : as = 0 := by
        cases n with
        | zero => simp [cE] at he
        | succ n =>
          simp only [cE] at he
          split at he
          · rename_i hc
            exact hc.1
          · cases he
      subst e0
      exact snd_setc x py elt tg it ifs scope p pos he hi hy G
    · cases h
  by_cases h2 : ∃ o i p, ts = [.Subscript o i p]
  · obtain ⟨o, i, p, rfl⟩ := h2
    simp only [cS] at h
    split at h
    · rename_i hi
      simp only [Option.bind_eq_some_iff] at h
      obtain ⟨e', he, o', ho, i', hi', h⟩ := h
      cases h
      have A := (snd_all n).1
      exact oks_set hi (A _ _ _ ho _ _ _ _ _ _ G).1 (A _ _ _ hi' _ _ _ _ _ _ G).1 (A _ _ _ he _ _ _ _ _ _ G).1
    · cases h
  by_cases h3 : ∃ x px y py k pt a b k2 p2, ts = [.Tuple [.Name x px, .Name y py] k pt] ∧ e = .Tuple [a, b] k2 p2
  · obtain ⟨x, px, y, py, k, pt, a, b, k2, p2, rfl, rfl⟩ := h3
    exact snd_par2 h G
  by_cases h4 : ∃ x px y py z pz k pt a b d k2 p2, ts = [.Tuple [.Name x px, .Name y py, .Name z pz] k pt] ∧ e = .Tuple [a, b, d] k2 p2
  · obtain ⟨x, px, y, py, z, pz, k, pt, a, b, d, k2, p2, rfl, rfl⟩ := h4
    exact snd_par3 h G
  cases ts with
  | nil => simp [cS] at h
  | cons tg r =>
    cases r with
    | cons _ _ => simp [cS] at h
    | nil =>
      rw [cS] at h
      · split at h
        · rename_i hc
          exact snd_asg hc h G
        · cases h
      · rintro x py elt tg' it ifs as scope p e1 e2
        exact h1 ⟨_, _, _, _, _, _, _, _, _, by rw [e2], e1⟩
      · rintro o i p e1
        exact h2 ⟨_, _, _, by rw [e1]⟩
      · rintro x px y py k pt a b k2 p2 e1 e2
        exact h3 ⟨_, _, _, _, _, _, _, _, _, _, by rw [e2], e1⟩
      · rintro x px y py z pz k pt a b d k2 p2 e1 e2
        exact h4 ⟨_, _, _, _, _, _, _, _, _, _, _, _, _, by rw [e2], e1⟩
theorem snd_S (HB : SndB n) : SndS (n + 1) := by
  intro c s ir h C Pg lv T X W G hbk
  obtain ⟨HE, HEs, HO, HI⟩ := snd_all n
  cases s with
  | Expr e pos =>
    simp only [cS] at h
    split at h
    · rename_i hc
      rw [Option.bind_eq_some_iff] at h
      obtain ⟨e', he, h⟩ := h
      cases h
      exact oks_expr hc (HE _ _ _ he _ _ _ _ _ _ G).1
    · cases h
  | Assign ts e pos => exact snd_assign h G
  | AugAssign tg op e pos =>
    cases tg with
    | Name x p =>
      simp only [cS] at h
      split at h
      · rename_i ho
        split at h
        · rename_i i hi
          rw [Option.bind_eq_some_iff] at h
          obtain ⟨e', he, h⟩ := h
          cases h
          exact oks_aug G hbk ho hi (HE _ _ _ he _ _ _ _ _ _ G).1
        · cases h
      · cases h
    | _ => simp [cS] at h
  | If t a b pos =>
    simp only [cS, Option.bind_eq_some_iff] at h
    obtain ⟨t', ht, a', ha, b', hb, h⟩ := h
    cases h
    exact oks_if (HE _ _ _ ht _ _ _ _ _ _ G).2 (HB _ _ _ ha _ _ _ _ _ _ G hbk) (HB _ _ _ hb _ _ _ _ _ _ G hbk)
  | While t b o pos =>
    cases o with
    | nil =>
      simp only [cS, Option.bind_eq_some_iff] at h
      obtain ⟨t', ht, b', hb, h⟩ := h
      cases h
      exact oks_whl G (HE _ _ _ ht _ _ _ _ _ _ G).2 (HB _ _ _ hb _ _ _ _ _ _ G hbk)
    | cons _ _ => simp [cS] at h
  | For tg it b o pos =>
    cases o with
    | nil =>
      simp only [cS] at h
      split at h
      · rename_i pl
        simp only [Option.bind_eq_some_iff] at h
        obtain ⟨it', hi, tg', ht, b', hb, h⟩ := h
        cases h
        exact oks_for G pl (HI _ _ _ _ hi _ _ _ _ _ _ G) (ok_tg G _ _ _ ht) (HB _ _ _ hb _ _ _ _ _ _ G hbk)
      · cases h
    | cons _ _ => simp [cS] at h
  | Return e pos =>
    cases e with
    | none => simp only [cS] at h; cases h; exact oks_retN
    | some e =>
      simp only [cS, Option.bind_eq_some_iff] at h
      obtain ⟨e', he, h⟩ := h
      cases h
      exact oks_ret (HE _ _ _ he _ _ _ _ _ _ G).1
  | Raise e f pos =>
    by_cases hf : ∃ x p t j p2 p3, e = some (.Call (.Name x p) [.Constant (.str t) j p2] [] p3) ∧ f = none
    · obtain ⟨x, p, t, j, p2, p3, rfl, rfl⟩ := hf
      simp only [cS] at h
      split at h
      · rename_i hc
        cases h
        exact oks_rais G hc.1 hc.2
      · cases h
    · rw [cS] at h
      · cases h
      all_goals first
        | (intros; contradiction)
        | (intro x p t j p2 p3 p4 e1; cases e1; exact hf ⟨_, _, _, _, _, _, rfl, rfl⟩)
  | Pass pos => simp only [cS] at h; cases h; exact oks_pass
  | Break pos => simp only [cS] at h; cases h; exact oks_brk
  | Continue pos => simp only [cS] at h; cases h; exact oks_cnt
  | _ => simp [cS] at h
theorem snd_B (HS : SndS n) (HB : SndB n) : SndB (n + 1) := by
  intro c s ir h C Pg lv T X W G hbk
  cases s with
  | nil =>
    simp only [cB, Option.some.injEq] at h
    subst h
    exact okb_nil
  | cons s r =>
    simp only [cB, Option.bind_eq_some_iff] at h
    obtain ⟨s', hs, r', hr, h⟩ := h
    cases h
    exact okb_cons (HS _ _ _ hs _ _ _ _ _ _ G hbk) (HB _ _ _ hr _ _ _ _ _ _ G hbk)
theorem snd_SB : ∀ n, SndS n ∧ SndB n
  | 0 => ⟨fun _ _ _ h => by simp [cS] at h, fun _ _ _ h => by simp [cB] at h⟩
  | n + 1 => by
    obtain ⟨h1, h2⟩ := snd_SB n
    exact ⟨snd_S h2, snd_B h1 h2⟩
end
end Dat

/-! Dat16 -/
set_option linter.all false
set_option maxRecDepth 100000
set_option maxHeartbeats 4000000
/-! Dat16: the defs of a program, at every level. -/
namespace Dat
open PySem PySem.Spec L2 PyProof.Rows
structure DefI where
  name : Str
  ps : List Str
  params : Arguments
  body : List Stmt
  scope : Scope
  N : List Str
  lam : Bool
  ir : Option (List IS)
structure LawI where
  defs : List DefI
  told : List (Nat × List (Str × Str))
  glos : List (Str × D)
  exs : List Str
  subs : List ((Str × Str) × Bool)
  turns : Nat
def LawI.fns (L : LawI) : List (Str × List Str) := L.defs.map fun d => (d.name, d.ps)
def LawI.ctx (L : LawI) (d : DefI) : Ctx := ⟨d.N, d.scope, false, L.fns, L.glos, L.exs, L.told, d.lam⟩
def DefI.fi (d : DefI) : FnI := ⟨d.ps.length, d.N.length, d.ir.getD [.brk]⟩
def LawI.sub (L : LawI) (a b : Str) : Option Bool := L.subs.lookup (a, b)
def LawI.prog (L : LawI) : Prog := ⟨L.defs.map DefI.fi, L.told, L.sub, L.turns⟩
def BindOk (d : DefI) : Prop := ∀ (kV doc pm : Value) (an : Option Addr) (cdv ct : Value) (us : List Value), us.length = d.ps.length → bindArgs (PySem.W.fnOf d.name d.name d.params d.body d.scope .none kV doc pm an cdv ct) ⟨us, []⟩ = pure (d.ps.zip us)
inductive AllB : List DefI → Prop
  | nil : AllB []
  | cons {d : DefI} {l : List DefI} (h : BindOk d) (r : AllB l) : AllB (d :: l)
theorem AllB.at_ : ∀ {l : List DefI}, AllB l → ∀ d ∈ l, BindOk d
  | _, .nil, _, h => by cases h
  | _, .cons h r, d, hd => by
    rcases List.mem_cons.mp hd with e | e
    · rw [e]; exact h
    · exact r.at_ d e
/-- what is checked of a def -/
def defB (L : LawI) (n : Nat) (d : DefI) : Bool :=
  decide (d.scope.kind = .function) && (!d.scope.isCoroutine && (!d.scope.isGenerator && (decide d.N.Nodup && (decide (d.N.take d.ps.length = d.ps) &&
  (d.ps.all (fun x => decide (d.scope.names.lookup x = some .local ∨ d.scope.names.lookup x = some .cell)) && (d.scope.names.all (fun y => decide (y.2 ≠ .free))))))))
theorem defB_sc {L : LawI} {n : Nat} {d : DefI} (h : defB L n d = true) : FnScope d.N d.ps d.scope := by
  simp only [defB, Bool.and_eq_true, decide_eq_true_eq, Bool.not_eq_true', List.all_eq_true] at h
  obtain ⟨h1, h2, h3, h4, h5, h6, h7⟩ := h
  exact ⟨h1, h2, h3, h4, h5, h6, h7⟩
/-- compiled as written down -/
inductive AllC (L : LawI) (n : Nat) : List DefI → Prop
  | nil : AllC L n []
  | cons {d : DefI} {l : List DefI} (h : d.ir = none ∨ cB n (L.ctx d) d.body = d.ir) (r : AllC L n l) : AllC L n (d :: l)
theorem AllC.at_ {L : LawI} {n : Nat} : ∀ {l : List DefI}, AllC L n l → ∀ d ∈ l, d.ir = none ∨ cB n (L.ctx d) d.body = d.ir
  | _, .nil, _, h => by cases h
  | _, .cons h r, d, hd => by
    rcases List.mem_cons.mp hd with e | e
    · rw [e]; exact h
    · exact r.at_ d e
structure Checked (L : LawI) (n : Nat) : Prop where
  sc : ∀ d ∈ L.defs, FnScope d.N d.ps d.scope
  bnd : ∀ d ∈ L.defs, BindOk d
  comp : ∀ d ∈ L.defs, d.ir = none ∨ cB n (L.ctx d) d.body = d.ir
/-- what the head tells -/
structure Facts (L : LawI) (T : List (Addr × Str)) (K : PySem.W.Frag) (mg : Str → Option Value) : Prop where
  fund : ∀ d ∈ L.defs, ∃ fd, FunD K d.name d.name d.params d.body d.scope [] [] (He.ga K d.name) fd
  glo : ∀ d ∈ L.defs, mg d.name = some (.ref (He.ga K d.name))
  glos : ∀ x d, L.glos.lookup x = some d → ∃ u v, mg x = some u ∧ RelV v u ∧ ∀ ρ H, RelD K ρ H d v
  blt : ∀ x ∈ bltNames, mg x = none
  exm : ∀ c c' b, L.sub c c' = some b → PySem.W.exmOne K (.ref (He.ga K c)) (.ref (He.ga K c')) = some b
  exs : ∀ x ∈ L.exs, PySem.W.excIn K (He.ga K x) He.veBase "ValueError.__new__" = true ∧ mg x = some (.ref (He.ga K x)) ∧ PySem.W.keepIn K (.ref (He.ga K x)) = true ∧
    PySem.W.subIn K (.ref (He.ga K x)) (.type "BaseException") = some true ∧ PySem.W.typeIn K (.ref (He.ga K x)) = some (.type "type")
  lam : ∀ d ∈ L.defs, d.lam = true → ((He.cT K (d.name, none)).2, (d.name ++ ".<locals>.") ++ "<lambda>") ∈ T ∧ ∀ p ∈ T, p.1 = (He.cT K (d.name, none)).2 → p.2 = (d.name ++ ".<locals>.") ++ "<lambda>"
  told : ∀ c : Ctx, c.fns = L.fns → ∀ i cl, L.told.lookup i = some cl → TolOk K mg c i cl
theorem spF_len {L : LawI} {K : PySem.W.Frag} {T : List (Addr × Str)} {n i : Nat} {d : DefI} (hd : L.defs[i]? = some d) {vs : List V} {H : Hp} {Q : VK} {E : XK} (h : spF K T L.prog n i vs H Q E) : vs.length = d.ps.length := by
  obtain ⟨ρ, m, ds, S, r, q⟩ := h
  obtain ⟨fi, hf, hl⟩ := runF_len q.ne
  have e : L.prog.fns[i]? = some d.fi := by
    show (L.defs.map DefI.fi)[i]? = _
    rw [List.getElem?_map, hd] <;> rfl
  rw [e] at hf
  cases hf
  rw [← r.length, hl] <;> rfl
theorem startE_rel {K : PySem.W.Frag} {ρ : List Addr} {H : Hp} {ds : List D} {vs : List V} {N : List Str} {np : Nat} (r : RelDs K ρ H ds vs) (hl : ds.length = np) (hn : np ≤ N.length) : REnv K ρ H (startE np N.length ds) (L2.start N vs) := by
  have e := r.length
  refine ⟨by simp [startE, L2.start]; omega, fun i d h => ?_⟩
  unfold startE at h
  by_cases hi : i < ds.length
  · rw [List.getElem?_append_left (by simpa using hi)] at h
    rw [List.getElem?_map] at h
    simp only [Option.map_eq_some_iff] at h
    obtain ⟨d', h1, h2⟩ := h
    cases h2
    obtain ⟨v, hv, rv⟩ := r.get h1
    refine ⟨v, ?_, rv⟩
    unfold L2.start
    rw [List.getElem?_append_left (by simp; omega), List.getElem?_map, hv] <;> rfl
  · rw [List.getElem?_append_right (by simpa using hi)] at h
    rw [List.getElem?_replicate] at h
    split at h <;> cases h
theorem body_then {K : PySem.W.Frag} {T : List (Addr × Str)} {ρ : List Addr} {H : Hp} {C : Ctl} {f : FnI} {ds : List D} {m : Mem} {Q : VK} {E : XK} (S : Sto K T ρ H m) (hl : ds.length = f.np)
    (h : Then K T ρ H (bodyF C f ds m) (fun d _ ρ' H' => ∀ v, RelD K ρ' H' d v → Q v H') (fun cc p _ ρ' H' => ∀ dd, RelP K ρ' H' p dd → E (.ref (He.ga K cc)) dd H')) :
    ThenO K T ρ H { nx := fun _ H' => Q .non H', rt := Q } (fun cls d _ H => E cls d H) (evalB C f.body (startE f.np f.nn ds) m) := by
  unfold bodyF at h
  rw [if_pos hl] at h
  cases e : evalB C f.body (startE f.np f.nn ds) m with
  | nx env m1 =>
    rw [e] at h
    exact fun ρ' H' σ' E' S' _ => gc_then (v := .non) S h E' S' .non
  | rt d m1 =>
    rw [e] at h
    exact fun ρ' H' v E' S' r => gc_then S h E' S' r
  | exn c p env m1 =>
    rw [e] at h
    exact fun ρ' H' σ' E' S' _ dd rp => h ρ' H' E' S' dd rp
  | bk env m1 => rw [e] at h; exact (show False from h).elim
  | ct env m1 => rw [e] at h; exact (show False from h).elim
  | stuck => rw [e] at h; exact (show False from h).elim
theorem lam_of {L : LawI} {n : Nat} {T : List (Addr × Str)} {K : PySem.W.Frag} {c : Ctx} {C : Ctl} {X : Cx} {d : DefI} {dV kV doc pm cdv ct oc : Value} {an od : Option Addr} {osl : Array (Option Value)}
    (hC : C.call2 = runF L.prog (n - 2)) (hX : X.env.code = cdv ∧ X.env.qual = d.name ++ ".<locals>.")
    (lk : K.lookup (He.ga K d.name) = some ⟨oc, od, .func (PySem.W.fnOf d.name d.name d.params d.body d.scope dV kV doc pm an cdv ct), osl⟩) (hcd : PySem.W.codeIn K cdv d.name = true)
    (hl : ((He.cT K (d.name, none)).2, (d.name ++ ".<locals>.") ++ "<lambda>") ∈ T ∧ ∀ p ∈ T, p.1 = (He.cT K (d.name, none)).2 → p.2 = (d.name ++ ".<locals>.") ++ "<lambda>") (TB : LamX.TabB X.base X.mg (He.cT K (d.name, none)).1 (He.cT K (d.name, none)).2) : LamOk c C L.prog n T X := by
  obtain ⟨c', ec⟩ := He.codeIn_ref hcd
  have lk' : K.lookup (He.fAd K (d.name, none)) = some ⟨oc, od, .func (PySem.W.fnOf d.name d.name d.params d.body d.scope dV kV doc pm an cdv ct), osl⟩ := lk
  have e2 : He.codeOf K (d.name, none) = c' := He.codeOf_eq lk' ec
  have e3 : (He.cT K (d.name, none)).1 = He.codeOf K (d.name, none) := rfl
  rw [e3, e2] at TB
  refine ⟨hC, c', _, by rw [hX.1, ec], TB, ?_, ?_⟩
  · rw [hX.2]; exact hl.1
  · rw [hX.2]; exact hl.2
section
variable {L : LawI} {n0 : Nat} {T : List (Addr × Str)} {P : Program} {w : World} {K : PySem.W.Frag} {mg : Str → Option Value} {base : Heap}
theorem fn_one (Ck : Checked L n0) (F : Facts L T K mg) (TB : ∀ d ∈ L.defs, d.lam = true → LamX.TabB base mg (He.cT K (d.name, none)).1 (He.cT K (d.name, none)).2) (n : Nat)
    (ih : ∀ k, k < n → ∀ c : Ctx, c.fns = L.fns → FnsOk c L.prog k T P w K mg base) {i : Nat} {d : DefI} (hd : L.defs[i]? = some d) {fd : FuncData} (Fd : FunD K d.name d.name d.params d.body d.scope [] [] (He.ga K d.name) fd) :
    FnOk P w K mg base (L2.CX P w) n (He.ga K d.name) fd d.ps (spF K T L.prog n i) := by
  have hm := List.mem_of_getElem? hd
  cases n with
  | zero => exact ⟨fun vs H Q E h => spF_len hd h, fun A outer s H args us vs Q E hr e0 hb r ⟨ρ, m, ds, S, rr, q⟩ => (q.ne (runF_zero _ _ _ _)).elim⟩
  | succ n =>
  obtain ⟨oc, od, dV, kV, doc, pm, an, cdv, ct, osl, rfl, lk, hcd, hdv, hkv⟩ := Fd.ex
  refine fn_of lk hcd (Ck.sc d hm) (fun vs H Q E h => spF_len hd h) fun A outer s H vs Q E hr hsp => ?_
  have hl := spF_len hd hsp
  obtain ⟨ρ, m, ds, S, r, q⟩ := hsp
  have efi : L.prog.fns[i]? = some d.fi := by
    show (L.defs.map DefI.fi)[i]? = _
    rw [List.getElem?_map, hd] <;> rfl
  have hdl : ds.length = d.fi.np := by rw [r.length, hl] <;> rfl
  rw [runF_succ] at q
  unfold stepF at q
  rw [efi] at q
  have q2 := body_then S hdl q
  have hnp : d.ps.length ≤ d.N.length := by
    have := congrArg List.length (Ck.sc d hm).pre
    rw [List.length_take] at this
    omega
  cases hir : d.ir with
  | none =>
    exfalso
    have e : d.fi.body = [.brk] := by unfold DefI.fi; rw [hir] <;> rfl
    rw [e] at q2
    unfold evalB at q2
    simp only [evalS, Out.seq] at q2
    exact q2 ρ H _ (Ext.refl _ _) S (startE_rel (N := d.N) r hdl hnp)
  | some ir =>
    have e : d.fi.body = ir := by unfold DefI.fi; rw [hir] <;> rfl
    rw [e] at q2
    have hcomp : cB n0 (L.ctx d) d.body = some ir := by
      rcases Ck.comp d hm with z | z
      · rw [hir] at z; cases z
      · rw [z, hir]
    refine ⟨_, (snd_SB n0).2 _ _ _ hcomp (L.prog.ctl (runF L.prog n) (runF L.prog (n - 2)) n) L.prog n T (cxOf (L2.CX P w) P w K mg base d.N d.name d.scope (He.ga K d.name) cdv A outer s H E) (fun cls d _ H => E cls d H) ?_ rfl, ρ, m, _, S, startE_rel r hdl hnp, q2⟩
    exact {
      call := rfl
      lam := fun hlam h2 => lam_of rfl ⟨rfl, rfl⟩ lk hcd (F.lam d hm hlam) (TB d hm hlam)
      two := fun i cl h => by
        unfold Prog.ctl at h
        simp only at h
        split at h
        · assumption
        · cases h
      calm := rfl
      nd := (Ck.sc d hm).nd
      hN := rfl
      sc := rfl
      room := hr
      tk := takes_of rfl rfl rfl rfl
      po := passes_of rfl
      fn := fun _ _ => rfl
      fns := fun k hk => ih k (by omega) _ rfl
      glos := F.glos
      blt := F.blt
      told := fun i cl h => by
        unfold Prog.ctl at h
        simp only at h
        split at h
        · exact F.told _ rfl _ _ h
        · cases h
      exm := F.exm
      exs := fun x hx => by
        obtain ⟨h1, h2, h3, h4, h5⟩ := F.exs x hx
        exact ⟨h1, h2, h3, raises_own h4 h5⟩ }
theorem fns_all (Ck : Checked L n0) (F : Facts L T K mg) (TB : ∀ d ∈ L.defs, d.lam = true → LamX.TabB base mg (He.cT K (d.name, none)).1 (He.cT K (d.name, none)).2) :
    ∀ (n : Nat) (c : Ctx), c.fns = L.fns → FnsOk c L.prog n T P w K mg base := by
  intro n
  induction n using Nat.strongRecOn with
  | _ n ih =>
  intro c hc
  refine ⟨fun i q hq => ?_, fun i q fi hq hf => ?_⟩
  · rw [hc] at hq
    unfold LawI.fns at hq
    rw [List.getElem?_map, Option.map_eq_some_iff] at hq
    obtain ⟨d, hd, rfl⟩ := hq
    have hm := List.mem_of_getElem? hd
    obtain ⟨fd, Fd⟩ := F.fund d hm
    exact ⟨He.ga K d.name, fd, F.glo d hm, Fd.kp, Fd.bindsN (Ck.bnd d hm), fn_one Ck F TB n ih hd Fd⟩
  · rw [hc] at hq
    unfold LawI.fns at hq
    rw [List.getElem?_map, Option.map_eq_some_iff] at hq
    obtain ⟨d, hd, rfl⟩ := hq
    have efi : L.prog.fns[i]? = some d.fi := by
      show (L.defs.map DefI.fi)[i]? = _
      rw [List.getElem?_map, hd] <;> rfl
    rw [efi] at hf
    cases hf
    rfl
end
end Dat

/-! Dat17 -/
set_option linter.all false
set_option maxRecDepth 100000
set_option maxHeartbeats 4000000
/-! Dat17: what the head tells. -/
namespace Dat
open PySem PySem.Spec L2 PyProof.Rows
def LawI.lams (L : LawI) : List DefI := L.defs.filter (·.lam)
def DefI.dd (d : DefI) : He.DefD := ⟨(d.name, none), d.name, d.name, d.params, d.body, d.scope, [], []⟩
def gloFa : Str × D → He.Fa
  | (x, .int i) => .int x i
  | (x, .str z) => .str x z
  | (x, _) => .exm x x false
def LawI.fa (L : LawI) : List He.Fa := bltNames.map He.Fa.free ++ (L.defs.map (fun d => He.Fa.glo d.name) ++ (L.exs.map He.Fa.exc ++ (L.exs.map He.Fa.glo ++ (L.subs.map (fun p => He.Fa.exm p.1.1 p.1.2 p.2) ++ L.glos.map gloFa))))
def LawI.fn (L : LawI) : List He.DefD := L.defs.map DefI.dd
def LawI.tf (L : LawI) : List He.Defn := L.lams.map fun d => (d.name, none)
def tabA (K : PySem.W.Frag) (d : DefI) : Addr := (He.cT K (d.name, none)).2
/-- the tables differ -/
def LawI.exB (L : LawI) (K : PySem.W.Frag) : Bool := L.lams.all fun d => L.lams.all fun d' => !(tabA K d == tabA K d') || d.name == d'.name
def LawI.T (L : LawI) (K : PySem.W.Frag) : List (Addr × Str) := L.lams.map fun d => (tabA K d, (d.name ++ ".<locals>.") ++ "<lambda>")
/-- the except clauses, as they stand -/
def hdC (sg : Scope) : List ExceptHandler → Option (List (Str × Str))
  | [] => some []
  | .ExceptHandler (some (.Name e _)) none [.Return (some (.Constant (.str r) _ _)) _] _ :: hs => if sg.names.lookup e = some .globalImplicit ∧ (e == ("__debug__" : Str)) = false then (hdC sg hs).map fun l => (e, r) :: l else none
  | _ => none
theorem hdC_ok {K : PySem.W.Frag} {mg : Str → Option Value} {sg : Scope} : ∀ {hs : List ExceptHandler} {cl : List (Str × Str)}, hdC sg hs = some cl → (∀ q ∈ cl, mg q.1 = some (.ref (He.ga K q.1))) → HdM K mg sg hs cl
  | [], cl, h, _ => by
    simp only [hdC, Option.some.injEq] at h
    subst h
    exact .nil
  | hd :: hs, cl, h, hm => by
    unfold hdC at h
    split at h
    · rename_i e; cases e
    · rename_i e
      cases e
      split at h
      · rename_i hc
        rw [Option.map_eq_some_iff] at h
        obtain ⟨l, hl, rfl⟩ := h
        exact .cons hc.1 hc.2 (hm _ List.mem_cons_self) (hdC_ok hl fun q hq => hm q (List.mem_cons_of_mem _ hq))
      · cases h
    · cases h
structure ToldI (d : DefI) (cl : List (Str × Str)) : Prop where
  ex : ∃ (a : Str) (h0 : ExceptHandler) (hs : List ExceptHandler) (p1 p2 p3 p8 : Pos), d.ps = [a] ∧ d.body = [.Try [.Return (some (.Call (.Name a p1) [] [] p2)) p3] (h0 :: hs) [] [] p8] ∧ d.N[0]? = some a ∧ d.scope.names.lookup a = some .local ∧ (a == ("__debug__" : Str)) = false ∧ (a == ("__classdict__" : Str)) = false ∧ hdC d.scope (h0 :: hs) = some cl
def toldC (d : DefI) (cl : List (Str × Str)) : Bool := match d.ps, d.body with
  | [a], [.Try [.Return (some (.Call (.Name a' _) [] [] _)) _] (h0 :: hs) [] [] _] => decide (a' = a ∧ d.N[0]? = some a ∧ d.scope.names.lookup a = some .local ∧ (a == ("__debug__" : Str)) = false ∧ (a == ("__classdict__" : Str)) = false ∧ hdC d.scope (h0 :: hs) = some cl)
  | _, _ => false
theorem toldC_ok {d : DefI} {cl : List (Str × Str)} (h : toldC d cl = true) : ToldI d cl := by
  unfold toldC at h
  split at h
  · rename_i h1 h2
    obtain ⟨rfl, h3, h4, h5, h6, h7⟩ := of_decide_eq_true h
    exact ⟨_, _, _, _, _, _, _, h1, h2, h3, h4, h5, h6, h7⟩
  · cases h
def LawI.toldB (L : LawI) : Bool := L.told.all fun p => (match L.defs[p.1]? with
  | some d => toldC d p.2
  | none => false) && p.2.all fun q => decide (q.1 ∈ L.exs)
def LawI.gloB (L : LawI) : Bool := L.glos.all fun p => match p.2 with
  | .int _ | .str _ => true
  | _ => false
theorem lookup_mem {α β : Type} [BEq α] [LawfulBEq α] {a : α} {b : β} : ∀ {l : List (α × β)}, l.lookup a = some b → (a, b) ∈ l
  | [], h => by cases h
  | (x, y) :: l, h => by
    rw [List.lookup_cons] at h
    split at h
    · rename_i e
      cases h
      rw [beq_iff_eq.mp e]
      exact List.mem_cons_self
    · exact List.mem_cons_of_mem _ (lookup_mem h)
section
variable {L : LawI} {n0 : Nat} {K : PySem.W.Frag} {mg : Str → Option Value} {h : Heap}
theorem exs_of (c : He.SaysD L.fa L.fn K) (X : K.In h) (G : h.Ns mainGlobals mg) : ∀ x ∈ L.exs, PySem.W.excIn K (He.ga K x) He.veBase "ValueError.__new__" = true ∧ mg x = some (.ref (He.ga K x)) ∧ PySem.W.keepIn K (.ref (He.ga K x)) = true ∧
    PySem.W.subIn K (.ref (He.ga K x)) (.type "BaseException") = some true ∧ PySem.W.typeIn K (.ref (He.ga K x)) = some (.type "type") := fun x hx => by
  have m1 : He.Fa.exc x ∈ L.fa := List.mem_append_right _ (List.mem_append_right _ (List.mem_append_left _ (List.mem_map_of_mem hx)))
  have m2 : He.Fa.glo x ∈ L.fa := List.mem_append_right _ (List.mem_append_right _ (List.mem_append_right _ (List.mem_append_left _ (List.mem_map_of_mem hx))))
  obtain ⟨h1, h2⟩ := He.ba (c.facts m1)
  obtain ⟨h3, h4⟩ := He.ba h2
  obtain ⟨h5, h6⟩ := He.ba h4
  exact ⟨h1, He.glo_ok X G (c.facts m2), h3, of_decide_eq_true h5, of_decide_eq_true h6⟩
theorem facts_of (c : He.SaysD L.fa L.fn K) (X : K.In h) (G : h.Ns mainGlobals mg) (ex : L.exB K = true) (Ck : Checked L n0) (ht : L.toldB = true) (hg : L.gloB = true) : Facts L (L.T K) K mg where
  fund := fun d hd => c.defs (d := d.dd) (List.mem_map_of_mem hd)
  glo := fun d hd => He.glo_ok X G (c.facts (f := .glo d.name) (List.mem_append_right _ (List.mem_append_left _ (List.mem_map_of_mem (f := fun d => He.Fa.glo d.name) hd))))
  glos := fun x d hx => by
    have hm := lookup_mem hx
    have h1 := List.all_eq_true.mp hg _ hm
    have m1 : gloFa (x, d) ∈ L.fa := List.mem_append_right _ (List.mem_append_right _ (List.mem_append_right _ (List.mem_append_right _ (List.mem_append_right _ (List.mem_map_of_mem hm)))))
    cases d with
    | int i =>
      obtain ⟨t, e⟩ := He.int_ok X G (c.facts m1)
      exact ⟨_, .int i, e, ⟨t, rfl⟩, fun _ _ => .int i⟩
    | str z =>
      obtain ⟨t, e⟩ := He.str_ok X G (c.facts m1)
      exact ⟨_, .str z, e, ⟨t, rfl⟩, fun _ _ => .str z⟩
    | _ => cases h1
  blt := fun x hx => He.free_ok X G (c.facts (f := .free x) (List.mem_append_left _ (List.mem_map_of_mem hx)))
  exm := fun a b v hv => of_decide_eq_true (c.facts (f := .exm a b v) (List.mem_append_right _ (List.mem_append_right _ (List.mem_append_right _ (List.mem_append_right _ (List.mem_append_left _ (List.mem_map_of_mem (f := fun p : (Str × Str) × Bool => He.Fa.exm p.1.1 p.1.2 p.2) (lookup_mem hv))))))))
  exs := exs_of c X G
  lam := fun d hd hl => by
    have hm : d ∈ L.lams := List.mem_filter.mpr ⟨hd, hl⟩
    refine ⟨List.mem_map_of_mem (f := fun d : DefI => (tabA K d, (d.name ++ ".<locals>.") ++ "<lambda>")) hm, fun p hp e => ?_⟩
    obtain ⟨d', hd', rfl⟩ := List.mem_map.mp hp
    have h1 := List.all_eq_true.mp (List.all_eq_true.mp ex _ hd') _ hm
    have e' : tabA K d' = tabA K d := e
    rw [e'] at h1
    have h2 : d'.name = d.name := by simpa using h1
    show (d'.name ++ ".<locals>.") ++ "<lambda>" = _
    rw [h2]
  told := fun cx hc i cl hi => by
    have h1 := List.all_eq_true.mp ht _ (lookup_mem hi)
    obtain ⟨h2, h3⟩ := He.ba h1
    simp only at h2 h3
    split at h2
    case h_2 => cases h2
    rename_i d hd
    obtain ⟨a, h0, hs, p1, p2, p3, p8, k1, k2, k3, k4, k5, k6, k7⟩ := (toldC_ok h2).ex
    have hm := List.mem_of_getElem? hd
    obtain ⟨fd, Fd⟩ := c.defs (d := d.dd) (List.mem_map_of_mem hm)
    have Fd : FunD K d.name d.name d.params d.body d.scope [] [] (He.ga K d.name) fd := Fd
    have B := Fd.bindsN (Ck.bnd d hm)
    obtain ⟨oc, od, dV, kV, doc, pm, an, cdv, ct, osl, rfl, lk, hcd, hdv, hkv⟩ := Fd.ex
    have sc := Ck.sc d hm
    rw [k1] at B sc
    refine ⟨d.name, a, He.ga K d.name, d.params, d.body, d.scope, d.N, dV, kV, doc, pm, cdv, ct, oc, od, an, osl, h0, hs, p1, p2, p3, p8, ?_, He.glo_ok X G (c.facts (f := .glo d.name) (List.mem_append_right _ (List.mem_append_left _ (List.mem_map_of_mem (f := fun d => He.Fa.glo d.name) hm)))), Fd.kp, lk, hcd, B, sc, k3, .inl k4, k5, k6, k2, ?_⟩
    · rw [hc]
      unfold LawI.fns
      rw [List.getElem?_map, hd, ← k1] <;> rfl
    · exact hdC_ok k7 fun q hq => (exs_of c X G q.1 (of_decide_eq_true (List.all_eq_true.mp h3 q hq))).2.1
end
end Dat

/-! Dat18 -/
set_option linter.all false
set_option maxRecDepth 100000
set_option maxHeartbeats 4000000
/-! Dat18: a law by its small program. -/
namespace Dat
open PySem PySem.Spec L2 PyProof.Rows
/-- what is left: the small program answers True -/
def Plain (L : LawI) (k n i : Nat) : Prop := ∀ ns : List Int, ns.length ≤ n → (∀ z ∈ ns, Builtin.Int.intBits z ≤ 1048576) →
  (∃ m', runF L.prog k i [.fro (ns.map .int)] [] = .ok (.bl true) m') ∧ (∃ m', runF L.prog k i [.ref 0] [.lst (ns.map .int)] = .ok (.bl true) m')
theorem relInts {K : PySem.W.Frag} {ρ : List Addr} {H : Hp} : ∀ ns : List Int, RelDs K ρ H (ns.map D.int) (ns.map V.int)
  | [] => .nil
  | n :: ns => .cons (.int n) (relInts ns)
theorem law_at {l : PySem.W.OpenLaw} {L : LawI} {n0 k n i : Nat} {x : Str} {d : DefI} {w : World} {K : PySem.W.Frag} {mg : Str → Option Value} {fa : Addr} {h : Heap} (Ck : Checked L n0) (ht : L.toldB = true) (hg : L.gloB = true)
    (hd : L.defs[i]? = some d) (hp : d.ps = [x]) (hf : mg d.name = some (.ref fa)) (KX : K.In h) (G : h.Ns mainGlobals mg) (c : He.SaysX L.fa L.fn [] L.tf L.exB w h K) (pl : Plain L k n i) :
    LamX.LawAtS l w K (L2.CX l.prog w) k n x mg fa h := by
  have F := facts_of c.t.d KX G c.more Ck ht hg
  have hm := List.mem_of_getElem? hd
  obtain ⟨fd, Fd⟩ := F.fund d hm
  have e := hf.symm.trans (F.glo d hm)
  have efa : fa = He.ga K d.name := by cases e; rfl
  subst efa
  have bA := Fd.bindsA (Ck.bnd d hm)
  rw [hp] at bA
  refine ⟨fd, L.lams.map (fun d => He.cT K (d.name, none)), spF K (L.T K) L.prog k i, fun p hp => ?_, fun p hp => ?_, fun p hp => ?_, fun s u => bA s [u] rfl, fun H a ns hl hb hT hS => ?_, fun base hK hG TB => ?_⟩
  · obtain ⟨d', hd', rfl⟩ := List.mem_map.mp hp
    exact c.empty (d'.name, none) (List.mem_map_of_mem (f := fun d : DefI => ((d.name, none) : He.Defn)) hd')
  · obtain ⟨d', hd', rfl⟩ := List.mem_map.mp hp
    exact c.out (d'.name, none) (List.mem_map_of_mem (f := fun d : DefI => ((d.name, none) : He.Defn)) hd')
  · obtain ⟨d', hd', rfl⟩ := List.mem_map.mp hp
    exact PySem.W.codeHd_of_K KX (c.hd (d'.name, none) (List.mem_map_of_mem (f := fun d : DefI => ((d.name, none) : He.Defn)) hd'))
  · have tabs : LamX.Tabs (L.T K) H := fun p hp => by
      obtain ⟨d', hd', rfl⟩ := List.mem_map.mp hp
      refine ⟨#[], hT (He.cT K (d'.name, none)) (List.mem_map_of_mem (f := fun d : DefI => He.cT K (d.name, none)) hd'), ?_, fun pos cv z => ?_⟩
      · simp [TriplesOk]
      · simp [codeAmong] at z
    obtain ⟨⟨m1, e1⟩, ⟨m2, e2⟩⟩ := pl ns hl hb
    have fin : ∀ {ρ : List Addr} {m m' : Mem} {d0 : D}, runF L.prog k i [d0] m = .ok (.bl true) m' → Sto K (L.T K) ρ H m → RelD K ρ H d0 (.ref a) → spF K (L.T K) L.prog k i [V.ref a] H (fun v _ => v = V.bl true) (fun _ _ _ => False) := fun {ρ m m' d0} e S r => by
      refine ⟨ρ, m, [d0], S, .cons r .nil, ?_⟩
      rw [e]
      exact fun ρ' H' _ _ v r => by cases r; rfl
    have S0 : Sto K (L.T K) [] H [] := ⟨rfl, List.nodup_nil, fun i c h => by simp at h, tabs⟩
    rcases hS with (hS | ⟨o, hS⟩) | hS
    · refine fin e2 (ρ := [a]) ⟨rfl, by simp, fun i c h => ?_, tabs⟩ (.ref rfl)
      cases i with
      | zero =>
        cases h
        exact ⟨a, rfl, _, hS, relInts ns⟩
      | succ i => simp at h
    · exact fin e1 S0 (.fro (.inl ⟨o, hS⟩) (relInts ns))
    · exact fin e1 S0 (.fro (.inr hS) (relInts ns))
  · have z := fn_one (w := w) (P := l.prog) (base := base) Ck F (fun d' hd' hl => TB (He.cT K (d'.name, none)) (List.mem_map_of_mem (f := fun d : DefI => He.cT K (d.name, none)) (List.mem_filter.mpr ⟨hd', hl⟩))) k
      (fun k' _ => fns_all Ck F (fun d' hd' hl => TB (He.cT K (d'.name, none)) (List.mem_map_of_mem (f := fun d : DefI => He.cT K (d.name, none)) (List.mem_filter.mpr ⟨hd', hl⟩))) k') hd Fd
    rw [hp] at z
    exact z
end Dat

/-! Dat19 -/
set_option linter.all false
set_option maxRecDepth 100000
set_option maxHeartbeats 4000000
/-! Dat19: reading the small language. -/
namespace Dat
open PySem L2
theorem while_more {c : EnvD → Mem → Res D} {b : EnvD → Mem → Out} : ∀ {k : Nat} {env : EnvD} {m : Mem}, whileN c b k env m ≠ .stuck → ∀ j, k ≤ j → whileN c b j env m = whileN c b k env m
  | 0, env, m, h, _, _ => absurd rfl h
  | k + 1, env, m, h, 0, hj => absurd hj (by omega)
  | k + 1, env, m, h, j + 1, hj => by
    have hj' : k ≤ j := by omega
    unfold whileN tstO at h ⊢
    cases hc : (c env m).gc m.length with
    | stuck => rfl
    | exn _ _ _ => rfl
    | ok x m1 =>
      rw [hc] at h
      simp only [Res.out] at h ⊢
      cases x with
      | bl t =>
        cases t with
        | false => rfl
        | true =>
          simp only [if_true] at h ⊢
          cases hb : b env m1 with
          | nx e m2 => rw [hb] at h; exact while_more h j hj'
          | ct e m2 => rw [hb] at h; exact while_more h j hj'
          | _ => rfl
      | _ => rfl
/-- a loop's end: k turns are enough -/
theorem while_of {c : EnvD → Mem → Res D} {b : EnvD → Mem → Out} {k K : Nat} {env : EnvD} {m : Mem} {o : Out} (h : whileN c b k env m = o) (n : o ≠ .stuck) (hk : k ≤ K) : whileN c b K env m = o := by
  rw [while_more (by rw [h]; exact n) K hk, h]
theorem while_succ {c : EnvD → Mem → Res D} {b : EnvD → Mem → Out} {k : Nat} {env : EnvD} {m : Mem} : whileN c b (k + 1) env m = tstO env (c env m) m.length fun t m1 => if t = true then (match b env m1 with
      | .nx e m2 => whileN c b k e m2
      | .ct e m2 => whileN c b k e m2
      | .bk e m2 => .nx e m2
      | o => o) else .nx env m1 := by rw [whileN] <;> rfl
theorem gcM_same {a : D} {m : Mem} : gcM m.length a m = m := by
  unfold gcM
  split <;> simp
theorem gc_same {a : D} {m : Mem} : (Res.ok a m).gc m.length = .ok a m := by
  unfold Res.gc
  simp only [gcM_same]
theorem gc_exn {c : Str} {p : Option D} {m : Mem} {n : Nat} : (Res.exn c p m : Res D).gc n = .exn c p m := Eq.trans rfl rfl
/-! ### head first -/
theorem seq_congr {o o' : Out} {f : EnvD → Mem → Out} (h : o = o') : o.seq f = o'.seq f := by rw [h]
theorem bind_congr {α β : Type} {r r' : Res α} {f : α → Mem → Res β} (h : r = r') : r.bind f = r'.bind f := by rw [h]
theorem out_congr {α : Type} {env : EnvD} {r r' : Res α} {f : α → Mem → Out} (h : r = r') : r.out env f = r'.out env f := by rw [h]
theorem tst_congr {env : EnvD} {r r' : Res D} {n : Nat} {f : Bool → Mem → Out} (h : r = r') : tstO env r n f = tstO env r' n f := by rw [h]
theorem asB_congr {α : Type} {x x' : D} {f : Bool → Res α} (h : x = x') : asB x f = asB x' f := by rw [h]
def selB (C : Ctl) (t : Bool) (a b : List IS) (env : EnvD) (m : Mem) : Out := if t = true then evalB C a env m else evalB C b env m
def selE (C : Ctl) (t : Bool) (a b : IE) (env : EnvD) (m : Mem) : Res D := if t = true then evalE a C env m else evalE b C env m
def rdV (o : Option (Option D)) (m : Mem) : Res D := match o with
  | some (some d) => .ok d m
  | _ => .stuck
def stT (m : Mem) (o : Option EnvD) : Out := match o with
  | some e => .nx e m
  | none => .stuck
section
variable {C : Ctl} {env : EnvD} {m m1 : Mem} {t : Bool}
theorem seq_nx {f : EnvD → Mem → Out} : (Out.nx env m).seq f = f env m := Eq.trans rfl rfl
theorem seq_rt {d : D} {f : EnvD → Mem → Out} : (Out.rt d m).seq f = .rt d m := Eq.trans rfl rfl
theorem seq_exn {c : Str} {p : Option D} {f : EnvD → Mem → Out} : (Out.exn c p env m).seq f = .exn c p env m := Eq.trans rfl rfl
theorem seq_bk {f : EnvD → Mem → Out} : (Out.bk env m).seq f = .bk env m := Eq.trans rfl rfl
theorem seq_ct {f : EnvD → Mem → Out} : (Out.ct env m).seq f = .ct env m := Eq.trans rfl rfl
theorem bind_ok {α β : Type} {a : α} {f : α → Mem → Res β} : (Res.ok a m).bind f = f a m := Eq.trans rfl rfl
theorem bind_exn {α β : Type} {c : Str} {p : Option D} {f : α → Mem → Res β} : (Res.exn c p m : Res α).bind f = .exn c p m := Eq.trans rfl rfl
theorem out_ok {α : Type} {a : α} {f : α → Mem → Out} : (Res.ok a m).out env f = f a m := Eq.trans rfl rfl
theorem out_exn {α : Type} {c : Str} {p : Option D} {f : α → Mem → Out} : (Res.exn c p m : Res α).out env f = .exn c p env m := Eq.trans rfl rfl
theorem tst_ok {b : Bool} {n : Nat} {f : Bool → Mem → Out} : tstO env (.ok (.bl b) m) n f = f b (gcM n (.bl b) m) := Eq.trans rfl rfl
theorem tst_exn {c : Str} {p : Option D} {n : Nat} {f : Bool → Mem → Out} : tstO env (.exn c p m) n f = .exn c p env m := Eq.trans rfl rfl
theorem gc_ok_ {a : D} {n : Nat} : (Res.ok a m).gc n = .ok a (gcM n a m) := Eq.trans rfl rfl
theorem asB_bl {α : Type} {f : Bool → Res α} : asB (.bl t) f = f t := Eq.trans rfl rfl
theorem selB_t {a b : List IS} : selB C true a b env m = evalB C a env m := Eq.trans rfl rfl
theorem selB_f {a b : List IS} : selB C false a b env m = evalB C b env m := Eq.trans rfl rfl
theorem selE_t {a b : IE} : selE C true a b env m = evalE a C env m := Eq.trans rfl rfl
theorem selE_f {a b : IE} : selE C false a b env m = evalE b C env m := Eq.trans rfl rfl
theorem rdV_some {d : D} : rdV (some (some d)) m = .ok d m := Eq.trans rfl rfl
theorem stT_some : stT m (some env) = .nx env m := Eq.trans rfl rfl
theorem e_var {i : Nat} : evalE (.var i) C env m = rdV env[i]? m := by rw [evalE] <;> rfl
theorem e_con {d : D} : evalE (.con d) C env m = .ok d m := by rw [evalE]
theorem e_glo {x : Str} {d : D} : evalE (.glo x d) C env m = .ok d m := by rw [evalE]
theorem e_nop : evalE .nop C env m = .ok .non m := by rw [evalE]
theorem e_bin {op : Operator} {a b : IE} : evalE (.bin op a b) C env m = (evalE a C env m).bind fun x m1 => (evalE b C env m1).bind fun y m2 => binD op x y m2 := by rw [evalE]
theorem e_neg {a : IE} : evalE (.neg a) C env m = (evalE a C env m).bind fun x m1 => negD x m1 := by rw [evalE]
theorem e_not {a : IE} : evalE (.notE a) C env m = (evalE a C env m).bind fun x m1 => asB x fun b => .ok (.bl (!b)) m1 := by rw [evalE]
theorem e_cmp {op : CmpOp} {a b : IE} : evalE (.cmp op a b) C env m = (evalE a C env m).bind fun x m1 => (evalE b C env m1).bind fun y m2 => cmpD op x y m2 := by rw [evalE]
theorem e_cmp2 {o1 o2 : CmpOp} {a b c : IE} : evalE (.cmp2 o1 o2 a b c) C env m = (evalE a C env m).bind fun x m1 => (evalE b C env m1).bind fun y m2 => (cmpD o1 x y m2).bind fun r m3 => asB r fun t => if t = true then (evalE c C env m3).bind fun z m4 => cmpD o2 y z m4 else .ok (.bl false) m3 := by rw [evalE]
theorem e_and {a b : IE} : evalE (.andE a b) C env m = (evalE a C env m).bind fun x m1 => asB x fun t => selE C t b (.con (.bl false)) env m1 := by
  rw [evalE]
  congr 1
theorem e_or {a b : IE} : evalE (.orE a b) C env m = (evalE a C env m).bind fun x m1 => asB x fun t => selE C t (.con (.bl true)) b env m1 := by
  rw [evalE]
  congr 1
theorem e_if {c a b : IE} : evalE (.ifE c a b) C env m = (evalE c C env m).bind fun x m1 => asB x fun t => selE C t a b env m1 := by rw [evalE] <;> rfl
theorem e_idx {a b : IE} : evalE (.idx a b) C env m = (evalE a C env m).bind fun x m1 => (evalE b C env m1).bind fun y m2 => idxD x y m2 := by rw [evalE]
theorem e_tup {l : List IE} : evalE (.tup l) C env m = (evalEs l C env m).bind fun ds m1 => if ds.length ≤ sizeLine then .ok (.tup ds) m1 else .stuck := by rw [evalE]
theorem e_lst {l : List IE} : evalE (.lst l) C env m = (evalEs l C env m).bind fun ds m1 => if ds.length ≤ sizeLine then .ok (.ref m1.length) (m1 ++ [.lst ds]) else .stuck := by rw [evalE]
theorem e_call {f : Nat} {l : List IE} : evalE (.call f l) C env m = (evalEs l C env m).bind fun ds m1 => C.call f ds m1 := by rw [evalE]
theorem e_blt {b : Blt} {l : List IE} : evalE (.blt b l) C env m = (evalEs l C env m).bind fun ds m1 => bltD b ds m1 := by rw [evalE]
theorem e_mth {k : Mth} {o : IE} {l : List IE} : evalE (.mth k o l) C env m = (evalE o C env m).bind fun x m1 => if isL m1 x = true then (evalEs l C env m1).bind fun ds m2 => mthD k x ds m2 else .stuck := by rw [evalE]
theorem es_nil : evalEs [] C env m = .ok [] m := by rw [evalEs]
theorem es_cons {e : IE} {es : List IE} : evalEs (e :: es) C env m = (evalE e C env m).bind fun d m1 => (evalEs es C env m1).bind fun ds m2 => .ok (d :: ds) m2 := by rw [evalEs]
theorem b_nil : evalB C [] env m = .nx env m := by rw [evalB]
theorem b_cons {s : IS} {r : List IS} : evalB C (s :: r) env m = (evalS C s env m).seq fun e m1 => evalB C r e m1 := by rw [evalB]
theorem s_asg {t : Tg} {e : IE} : evalS C (.asg t e) env m = ((evalE e C env m).gc m.length).out env fun x m1 => stT m1 (asgT m1 t x env) := by rw [evalS] <;> rfl
theorem s_expr {e : IE} : evalS C (.expr e) env m = ((evalE e C env m).bind fun _ m1 => (Res.ok .non m1).gc m.length).out env fun _ m1 => .nx env m1 := by rw [evalS]
theorem s_if {c : IE} {a b : List IS} : evalS C (.ifS c a b) env m = tstO env (evalE c C env m) m.length fun t m1 => selB C t a b env m1 := by rw [evalS] <;> rfl
theorem s_whl {c : IE} {b : List IS} : evalS C (.whl c b) env m = whileN (fun e m1 => evalE c C e m1) (fun e m1 => evalB C b e m1) C.turns env m := by rw [evalS]
theorem s_for {t : Tg} {it : II} {b : List IS} : evalS C (.forS t it b) env m = (evalI it C env m).out env fun I m1 => forL I.2 t (fun e m2 => evalB C b e m2) I.1 env m1 := by rw [evalS]
theorem s_ret {e : IE} : evalS C (.ret e) env m = (evalE e C env m).out env fun d m1 => .rt d m1 := by rw [evalS]
theorem s_rais {c : Str} : evalS C (.rais c) env m = .exn c none env m := by rw [evalS]
end
/-! the same, with what goes on held fast -/
structure Fx {T : Type} (f : T) : Type where
def Res.bindT {α β : Type} (r : Res α) (f : α → Mem → Res β) (_ : Fx f) : Res β := r.bind f
def Out.seqT (o : Out) (f : EnvD → Mem → Out) (_ : Fx f) : Out := o.seq f
def Res.outT {α : Type} (env : EnvD) (r : Res α) (f : α → Mem → Out) (_ : Fx f) : Out := r.out env f
def tstT (env : EnvD) (r : Res D) (n : Nat) (f : Bool → Mem → Out) (_ : Fx f) : Out := tstO env r n f
def asBT {α : Type} (x : D) (f : Bool → Res α) (_ : Fx f) : Res α := asB x f
section
variable {C : Ctl} {env : EnvD} {m m1 : Mem} {t : Bool}
theorem seqT_nx {f : EnvD → Mem → Out} {h : Fx f} : (Out.nx env m).seqT f h = f env m := seq_nx
theorem seqT_rt {d : D} {f : EnvD → Mem → Out} {h : Fx f} : (Out.rt d m).seqT f h = .rt d m := seq_rt
theorem seqT_exn {c : Str} {p : Option D} {f : EnvD → Mem → Out} {h : Fx f} : (Out.exn c p env m).seqT f h = .exn c p env m := seq_exn
theorem seqT_bk {f : EnvD → Mem → Out} {h : Fx f} : (Out.bk env m).seqT f h = .bk env m := seq_bk
theorem seqT_ct {f : EnvD → Mem → Out} {h : Fx f} : (Out.ct env m).seqT f h = .ct env m := seq_ct
theorem bindT_ok {α β : Type} {a : α} {f : α → Mem → Res β} {h : Fx f} : (Res.ok a m).bindT f h = f a m := bind_ok
theorem bindT_exn {α β : Type} {c : Str} {p : Option D} {f : α → Mem → Res β} {h : Fx f} : (Res.exn c p m : Res α).bindT f h = .exn c p m := bind_exn
theorem outT_ok {α : Type} {a : α} {f : α → Mem → Out} {h : Fx f} : (Res.ok a m).outT env f h = f a m := out_ok
theorem outT_exn {α : Type} {c : Str} {p : Option D} {f : α → Mem → Out} {h : Fx f} : (Res.exn c p m : Res α).outT env f h = .exn c p env m := out_exn
theorem tstT_ok {b : Bool} {n : Nat} {f : Bool → Mem → Out} {h : Fx f} : tstT env (.ok (.bl b) m) n f h = f b (gcM n (.bl b) m) := tst_ok
theorem tstT_exn {c : Str} {p : Option D} {n : Nat} {f : Bool → Mem → Out} {h : Fx f} : tstT env (.exn c p m) n f h = .exn c p env m := tst_exn
theorem asBT_bl {α : Type} {f : Bool → Res α} {h : Fx f} : asBT (.bl t) f h = f t := asB_bl
theorem t_bin {op : Operator} {a b : IE} : evalE (.bin op a b) C env m = (evalE a C env m).bindT (fun x m1 => (evalE b C env m1).bindT (fun y m2 => binD op x y m2) ⟨⟩) ⟨⟩ := e_bin
theorem t_neg {a : IE} : evalE (.neg a) C env m = (evalE a C env m).bindT (fun x m1 => negD x m1) ⟨⟩ := e_neg
theorem t_not {a : IE} : evalE (.notE a) C env m = (evalE a C env m).bindT (fun x m1 => asBT x (fun b => .ok (.bl (!b)) m1) ⟨⟩) ⟨⟩ := e_not
theorem t_cmp {op : CmpOp} {a b : IE} : evalE (.cmp op a b) C env m = (evalE a C env m).bindT (fun x m1 => (evalE b C env m1).bindT (fun y m2 => cmpD op x y m2) ⟨⟩) ⟨⟩ := e_cmp
def cmp2T (C : Ctl) (env : EnvD) (t : Bool) (o2 : CmpOp) (y : D) (c : IE) (m3 : Mem) : Res D := if t = true then (evalE c C env m3).bindT (fun z m4 => cmpD o2 y z m4) ⟨⟩ else .ok (.bl false) m3
theorem cmp2T_t {o2 : CmpOp} {y : D} {c : IE} : cmp2T C env true o2 y c m = (evalE c C env m).bindT (fun z m4 => cmpD o2 y z m4) ⟨⟩ := Eq.trans rfl rfl
theorem cmp2T_f {o2 : CmpOp} {y : D} {c : IE} : cmp2T C env false o2 y c m = .ok (.bl false) m := Eq.trans rfl rfl
theorem t_cmp2 {o1 o2 : CmpOp} {a b c : IE} : evalE (.cmp2 o1 o2 a b c) C env m = (evalE a C env m).bindT (fun x m1 => (evalE b C env m1).bindT (fun y m2 => (cmpD o1 x y m2).bindT (fun r m3 => asBT r (fun t => cmp2T C env t o2 y c m3) ⟨⟩) ⟨⟩) ⟨⟩) ⟨⟩ := e_cmp2
theorem t_and {a b : IE} : evalE (.andE a b) C env m = (evalE a C env m).bindT (fun x m1 => asBT x (fun t => selE C t b (.con (.bl false)) env m1) ⟨⟩) ⟨⟩ := e_and
theorem t_or {a b : IE} : evalE (.orE a b) C env m = (evalE a C env m).bindT (fun x m1 => asBT x (fun t => selE C t (.con (.bl true)) b env m1) ⟨⟩) ⟨⟩ := e_or
theorem t_if {c a b : IE} : evalE (.ifE c a b) C env m = (evalE c C env m).bindT (fun x m1 => asBT x (fun t => selE C t a b env m1) ⟨⟩) ⟨⟩ := e_if
theorem t_idx {a b : IE} : evalE (.idx a b) C env m = (evalE a C env m).bindT (fun x m1 => (evalE b C env m1).bindT (fun y m2 => idxD x y m2) ⟨⟩) ⟨⟩ := e_idx
theorem t_tup {l : List IE} : evalE (.tup l) C env m = (evalEs l C env m).bindT (fun ds m1 => if ds.length ≤ sizeLine then .ok (.tup ds) m1 else .stuck) ⟨⟩ := e_tup
theorem t_lst {l : List IE} : evalE (.lst l) C env m = (evalEs l C env m).bindT (fun ds m1 => if ds.length ≤ sizeLine then .ok (.ref m1.length) (m1 ++ [.lst ds]) else .stuck) ⟨⟩ := e_lst
theorem t_call {f : Nat} {l : List IE} : evalE (.call f l) C env m = (evalEs l C env m).bindT (fun ds m1 => C.call f ds m1) ⟨⟩ := e_call
theorem t_blt {b : Blt} {l : List IE} : evalE (.blt b l) C env m = (evalEs l C env m).bindT (fun ds m1 => bltD b ds m1) ⟨⟩ := e_blt
def mthT (C : Ctl) (env : EnvD) (t : Bool) (k : Mth) (x : D) (l : List IE) (m1 : Mem) : Res D := if t = true then (evalEs l C env m1).bindT (fun ds m2 => mthD k x ds m2) ⟨⟩ else .stuck
theorem mthT_t {k : Mth} {x : D} {l : List IE} : mthT C env true k x l m1 = (evalEs l C env m1).bindT (fun ds m2 => mthD k x ds m2) ⟨⟩ := Eq.trans rfl rfl
theorem t_mth {k : Mth} {o : IE} {l : List IE} : evalE (.mth k o l) C env m = (evalE o C env m).bindT (fun x m1 => mthT C env (isL m1 x) k x l m1) ⟨⟩ := e_mth
theorem ts_cons {e : IE} {es : List IE} : evalEs (e :: es) C env m = (evalE e C env m).bindT (fun d m1 => (evalEs es C env m1).bindT (fun ds m2 => .ok (d :: ds) m2) ⟨⟩) ⟨⟩ := es_cons
theorem tb_cons {s : IS} {r : List IS} : evalB C (s :: r) env m = (evalS C s env m).seqT (fun e m1 => evalB C r e m1) ⟨⟩ := b_cons
theorem ts_asg {t : Tg} {e : IE} : evalS C (.asg t e) env m = ((evalE e C env m).gc m.length).outT env (fun x m1 => stT m1 (asgT m1 t x env)) ⟨⟩ := s_asg
theorem ts_expr {e : IE} : evalS C (.expr e) env m = ((evalE e C env m).bindT (fun _ m1 => (Res.ok .non m1).gc m.length) ⟨⟩).outT env (fun _ m1 => .nx env m1) ⟨⟩ := s_expr
theorem ts_if {c : IE} {a b : List IS} : evalS C (.ifS c a b) env m = tstT env (evalE c C env m) m.length (fun t m1 => selB C t a b env m1) ⟨⟩ := s_if
theorem ts_ret {e : IE} : evalS C (.ret e) env m = (evalE e C env m).outT env (fun d m1 => .rt d m1) ⟨⟩ := s_ret
end
theorem c_eqI {i j : Int} {m : Mem} : cmpD .Eq (.int i) (.int j) m = .ok (.bl (decide (i = j))) m := by
  have e : eqD m (.int i) (.int j) = some (decide (i = j)) := by
    have h : SeqAt.shaped (.int i) = true ∧ SeqAt.shaped (.int j) = true := ⟨rfl, rfl⟩
    show (if SeqAt.shaped (.int i) = true ∧ SeqAt.shaped (.int j) = true then some (PyData.eqv (.int i) (.int j)) else none) = _
    rw [if_pos h]
    simp [PyData.eqv, BEq.beq]
  simp only [cmpD, e, liftO, Option.map_some]
theorem c_neI {i j : Int} {m : Mem} : cmpD .NotEq (.int i) (.int j) m = .ok (.bl (!decide (i = j))) m := by
  have e : eqD m (.int i) (.int j) = some (decide (i = j)) := by
    have h : SeqAt.shaped (.int i) = true ∧ SeqAt.shaped (.int j) = true := ⟨rfl, rfl⟩
    show (if SeqAt.shaped (.int i) = true ∧ SeqAt.shaped (.int j) = true then some (PyData.eqv (.int i) (.int j)) else none) = _
    rw [if_pos h]
    simp [PyData.eqv, BEq.beq]
  simp only [cmpD, e, liftO, Option.map_some]
theorem c_ltI {i j : Int} {m : Mem} : cmpD .Lt (.int i) (.int j) m = .ok (.bl (decide (i < j))) m := Eq.trans rfl rfl
theorem c_leI {i j : Int} {m : Mem} : cmpD .LtE (.int i) (.int j) m = .ok (.bl (decide (i ≤ j))) m := Eq.trans rfl rfl
theorem c_gtI {i j : Int} {m : Mem} : cmpD .Gt (.int i) (.int j) m = .ok (.bl (decide (j < i))) m := Eq.trans rfl rfl
theorem c_geI {i j : Int} {m : Mem} : cmpD .GtE (.int i) (.int j) m = .ok (.bl (decide (j ≤ i))) m := Eq.trans rfl rfl
theorem o_addI {i j : Int} {m : Mem} : binD .Add (.int i) (.int j) m = .ok (.int (i + j)) m := Eq.trans rfl rfl
theorem o_subI {i j : Int} {m : Mem} : binD .Sub (.int i) (.int j) m = .ok (.int (i - j)) m := Eq.trans rfl rfl
theorem o_mulI {i j : Int} {m : Mem} (h : MulG i j) : binD .Mult (.int i) (.int j) m = .ok (.int (i * j)) m := if_pos h
theorem o_divI {i j : Int} {m : Mem} (h : DivG i j) : binD .FloorDiv (.int i) (.int j) m = .ok (.int (i.fdiv j)) m := if_pos h
theorem o_modI {i j : Int} {m : Mem} (h : j ≠ 0) : binD .Mod (.int i) (.int j) m = .ok (.int (i.fmod j)) m := if_pos h
theorem n_I {i : Int} {m : Mem} : negD (.int i) m = .ok (.int (-i)) m := Eq.trans rfl rfl
theorem abs_I {i : Int} {m : Mem} : bltD .abs [.int i] m = .ok (.int (if i < 0 then -i else i)) m := Eq.trans rfl rfl
theorem abs_N {i : Int} {m : Mem} : bltD .abs [.int i] m = .ok (.int (i.natAbs : Int)) m := by
  rw [abs_I]
  congr 2
  split <;> omega
theorem ix_tup {l : List D} {i : Int} {m : Mem} : idxD (.tup l) (.int i) m = liftO m (atI l i) := Eq.trans rfl rfl
theorem lift_some {α : Type} {a : α} {m : Mem} : liftO m (some a) = .ok a m := Eq.trans rfl rfl
theorem asT_var {m : Mem} {i : Nat} {d : D} {env : EnvD} : asgT m (.var i) d env = if i < env.length then some (env.set i (some d)) else none := by rw [asgT]
theorem asT_tup {m : Mem} {ts : List Tg} {ds : List D} {env : EnvD} : asgT m (.tup ts) (.tup ds) env = asgTs m ts ds env := by rw [asgT] <;> rfl
theorem asTs_nil {m : Mem} {env : EnvD} : asgTs m [] [] env = some env := by rw [asgTs]
theorem asTs_cons {m : Mem} {t : Tg} {ts : List Tg} {d : D} {ds : List D} {env : EnvD} : asgTs m (t :: ts) (d :: ds) env = (asgT m t d env).bind fun e => asgTs m ts ds e := by rw [asgTs]
theorem at_nat {l : List D} {k : Nat} : atI l (k : Int) = l[k]? := by
  unfold atI ixN
  rw [if_pos (Int.natCast_nonneg k)]
  split
  · rfl
  · rename_i h
    rw [List.getElem?_eq_none (by omega)]
    rfl
theorem at0 {l : List D} : atI l 0 = l[0]? := at_nat (k := 0)
theorem at1 {l : List D} : atI l 1 = l[1]? := at_nat (k := 1)
theorem at2 {l : List D} : atI l 2 = l[2]? := at_nat (k := 2)
theorem at3 {l : List D} : atI l 3 = l[3]? := at_nat (k := 3)
theorem ctl_call {P : Prog} {c1 c2 : CallT} {n : Nat} : (P.ctl c1 c2 n).call = c1 := Eq.trans rfl rfl
theorem sz {n : Nat} (h : n ≤ 64) : (n ≤ sizeLine) = True := by
  have : 64 ≤ sizeLine := by decide
  exact eq_true (by omega)
def finF (n : Nat) (o : Out) : Res D := match o with
  | .rt d m1 => (Res.ok d m1).gc n
  | .nx _ m1 => (Res.ok .non m1).gc n
  | .exn c p _ m1 => .exn c p m1
  | _ => .stuck
theorem finF_congr {n : Nat} {o o' : Out} (h : o = o') : finF n o = finF n o' := by rw [h]
theorem fin_rt {n : Nat} {d : D} {m : Mem} : finF n (.rt d m) = .ok d (gcM n d m) := Eq.trans rfl rfl
theorem fin_nx {n : Nat} {env : EnvD} {m : Mem} : finF n (.nx env m) = .ok .non (gcM n .non m) := Eq.trans rfl rfl
theorem fin_exn {n : Nat} {env : EnvD} {c : Str} {p : Option D} {m : Mem} : finF n (.exn c p env m) = .exn c p m := Eq.trans rfl rfl
theorem body_eq {C : Ctl} {np nn : Nat} {ir : List IS} {ds : List D} {m : Mem} (h : ds.length = np) : bodyF C ⟨np, nn, ir⟩ ds m = finF m.length (evalB C ir (startE np nn ds) m) := by
  unfold bodyF finF
  rw [if_pos h] <;> rfl
/-! ### gcd -/
theorem gcd_step (a b : Int) : Int.gcd b (a.fmod b) = Int.gcd a b := by
  have e : a.fmod b = a + b * (-(a.fdiv b)) := by
    rw [Int.fmod_def, Int.mul_neg, Int.sub_eq_add_neg]
  rw [e, Int.gcd_add_mul_left_right, Int.gcd_comm]
theorem fmod_lt (a b : Int) (h : b ≠ 0) : (a.fmod b).natAbs < b.natAbs := by
  rcases Int.lt_or_gt_of_ne h with h | h
  · have h1 := Int.fmod_lt_of_pos (-a) (b := -b) (by omega)
    have h2 := Int.fmod_nonneg_of_pos (-a) (b := -b) (by omega)
    rw [Int.neg_fmod_neg] at h1 h2
    omega
  · have h1 := Int.fmod_lt_of_pos a h
    have h2 := Int.fmod_nonneg_of_pos a h
    omega
end Dat

/-! DatFr -/
set_option linter.all false
set_option maxRecDepth 100000
set_option maxHeartbeats 4000000
/-! DatFr: a computation beside other memory. -/
namespace Dat
open PySem L2
section
variable (k : Nat)
mutual
def D.sh : D → D
  | .tup l => .tup (D.shL l)
  | .fro l => .fro (D.shL l)
  | .ref i => .ref (k + i)
  | .non => .non
  | .bl b => .bl b
  | .int i => .int i
  | .str x => .str x
def D.shL : List D → List D
  | [] => []
  | d :: l => D.sh d :: D.shL l
end
def Cell.sh : Cell → Cell
  | .lst l => .lst (D.shL k l)
  | .ins c fs => .ins c (fs.map fun p => (p.1, p.2.sh k))
  | .dct l => .dct (l.map fun p => (p.1, p.2.sh k))
theorem shL_map : ∀ l : List D, D.shL k l = l.map (D.sh k)
  | [] => rfl
  | d :: l => by rw [D.shL, shL_map l, List.map_cons]
def EnvD.sh (env : EnvD) : EnvD := env.map (Option.map (D.sh k))
end
section
variable {m0 : Mem}
def frM (m0 m : Mem) : Mem := m0 ++ m.map (Cell.sh m0.length)
def frR (m0 : Mem) : Res D → Res D
  | .ok a m => .ok (a.sh m0.length) (frM m0 m)
  | .exn c p m => .exn c (p.map (D.sh m0.length)) (frM m0 m)
  | .stuck => .stuck
def frRs (m0 : Mem) : Res (List D) → Res (List D)
  | .ok a m => .ok (D.shL m0.length a) (frM m0 m)
  | .exn c p m => .exn c (p.map (D.sh m0.length)) (frM m0 m)
  | .stuck => .stuck
def shO (k : Nat) (o : Option (Nat × List D)) : Option (Nat × List D) := o.map fun p => (k + p.1, D.shL k p.2)
def frI (m0 : Mem) : Res Items → Res Items
  | .ok a m => .ok (D.shL m0.length a.1, shO m0.length a.2) (frM m0 m)
  | .exn c p m => .exn c (p.map (D.sh m0.length)) (frM m0 m)
  | .stuck => .stuck
def frO (m0 : Mem) : Out → Out
  | .nx env m => .nx (EnvD.sh m0.length env) (frM m0 m)
  | .bk env m => .bk (EnvD.sh m0.length env) (frM m0 m)
  | .ct env m => .ct (EnvD.sh m0.length env) (frM m0 m)
  | .rt d m => .rt (d.sh m0.length) (frM m0 m)
  | .exn c p env m => .exn c (p.map (D.sh m0.length)) (EnvD.sh m0.length env) (frM m0 m)
  | .stuck => .stuck
theorem frM_len {m : Mem} : (frM m0 m).length = m0.length + m.length := by simp [frM]
theorem frM_get {m : Mem} {i : Nat} : (frM m0 m)[m0.length + i]? = (m[i]?).map (Cell.sh m0.length) := by
  unfold frM
  rw [List.getElem?_append_right (by omega)]
  simp
theorem frM_set {m : Mem} {i : Nat} {c : Cell} : (frM m0 m).set (m0.length + i) (c.sh m0.length) = frM m0 (m.set i c) := by
  unfold frM
  rw [List.set_append_right _ _ (by omega)]
  simp [List.map_set]
theorem frM_app {m : Mem} {c : Cell} : frM m0 m ++ [c.sh m0.length] = frM m0 (m ++ [c]) := by simp [frM]
mutual
theorem toPy0_sh {k : Nat} : ∀ d : D, toPy0 (d.sh k) = toPy0 d
  | .tup l => by simp [D.sh, toPy0, toPy0L_sh l]
  | .fro l => by simp [D.sh, toPy0, toPy0L_sh l]
  | .ref i => by simp [D.sh, toPy0]
  | .non => rfl
  | .bl _ => rfl
  | .int _ => rfl
  | .str _ => rfl
theorem toPy0L_sh {k : Nat} : ∀ l : List D, toPy0L (D.shL k l) = toPy0L l
  | [] => rfl
  | d :: l => by simp [D.shL, toPy0L, toPy0_sh d, toPy0L_sh l]
end
theorem toPy_sh {m : Mem} (d : D) : toPy (frM m0 m) (d.sh m0.length) = toPy m d := by
  cases d with
  | ref i =>
    simp only [D.sh, toPy, frM_get]
    cases m[i]? with
    | none => rfl
    | some c => cases c <;> simp [Cell.sh, toPy0L_sh]
  | tup l => simp [D.sh, toPy, toPy0, toPy0L_sh]
  | fro l => simp [D.sh, toPy, toPy0, toPy0L_sh]
  | _ => rfl
theorem seqD_sh {m : Mem} (d : D) : seqD (frM m0 m) (d.sh m0.length) = (seqD m d).map (D.shL m0.length) := by
  cases d with
  | ref i =>
    simp only [D.sh, seqD, frM_get]
    cases m[i]? with
    | none => rfl
    | some c => cases c <;> rfl
  | _ => rfl
mutual
theorem undr_sh {k n : Nat} : ∀ d : D, D.undr (k + n) (d.sh k) = D.undr n d
  | .tup l => by simp [D.sh, D.undr, undrL_sh l]
  | .fro l => by simp [D.sh, D.undr, undrL_sh l]
  | .ref i => by simp [D.sh, D.undr]
  | .non => rfl
  | .bl _ => rfl
  | .int _ => rfl
  | .str _ => rfl
theorem undrL_sh {k n : Nat} : ∀ l : List D, D.undrL (k + n) (D.shL k l) = D.undrL n l
  | [] => rfl
  | d :: l => by simp [D.shL, D.undrL, undr_sh d, undrL_sh l]
end
theorem undrC_sh {k n : Nat} (c : Cell) : Cell.undr (k + n) (c.sh k) = c.undr n := by
  cases c with
  | lst l => simp [Cell.sh, Cell.undr, undrL_sh]
  | ins c fs => simp [Cell.sh, Cell.undr, List.all_map, Function.comp_def, undr_sh]
  | dct l => simp [Cell.sh, Cell.undr, List.all_map, Function.comp_def, undr_sh]
mutual
theorem undr_le {k n : Nat} (h : k ≤ n) : ∀ d : D, D.undr k d = true → D.undr n d = true
  | .tup l => by simp only [D.undr]; exact undrL_le h l
  | .fro l => by simp only [D.undr]; exact undrL_le h l
  | .ref i => by simp only [D.undr, decide_eq_true_eq]; omega
  | .non => fun _ => rfl
  | .bl _ => fun _ => rfl
  | .int _ => fun _ => rfl
  | .str _ => fun _ => rfl
theorem undrL_le {k n : Nat} (h : k ≤ n) : ∀ l : List D, D.undrL k l = true → D.undrL n l = true
  | [] => fun _ => rfl
  | d :: l => by
    simp only [D.undrL, Bool.and_eq_true]
    exact fun ⟨a, b⟩ => ⟨undr_le h d a, undrL_le h l b⟩
end
theorem undrC_le {k n : Nat} (h : k ≤ n) (c : Cell) (u : c.undr k = true) : c.undr n = true := by
  cases c with
  | lst l => exact undrL_le h l u
  | ins c fs => exact List.all_eq_true.mpr fun p hp => undr_le h _ (List.all_eq_true.mp u p hp)
  | dct l => exact List.all_eq_true.mpr fun p hp => undr_le h _ (List.all_eq_true.mp u p hp)
/-- nothing in it points out of it -/
def Clo (m : Mem) : Prop := ∀ c ∈ m, c.undr m.length = true
theorem gcM_sh (hc : Clo m0) {n : Nat} {a : D} {m : Mem} : gcM (m0.length + n) (a.sh m0.length) (frM m0 m) = frM m0 (gcM n a m) := by
  have e : (frM m0 m).take (m0.length + n) = m0 ++ (m.take n).map (Cell.sh m0.length) := by
    unfold frM
    rw [List.take_append, List.take_of_length_le (by omega), List.map_take]
    simp
  unfold gcM
  by_cases h : a.undr n = true ∧ ∀ c ∈ m.take n, c.undr n = true
  · rw [if_pos h, if_pos, e]
    · rfl
    · rw [e]
      refine ⟨by rw [undr_sh]; exact h.1, fun c hc' => ?_⟩
      rcases List.mem_append.mp hc' with z | z
      · exact undrC_le (by omega) c (hc c z)
      · obtain ⟨c', h1, rfl⟩ := List.mem_map.mp z
        rw [undrC_sh]
        exact h.2 c' h1
  · rw [if_neg h, if_neg]
    rw [e]
    rintro ⟨h1, h2⟩
    exact h ⟨by rw [undr_sh] at h1; exact h1, fun c hc' => by
      have := h2 _ (List.mem_append_right _ (List.mem_map_of_mem hc'))
      rwa [undrC_sh] at this⟩
theorem gc_sh (hc : Clo m0) {n : Nat} {r : Res D} : (frR m0 r).gc (m0.length + n) = frR m0 (r.gc n) := by
  cases r with
  | ok a m => simp only [frR, Res.gc, gcM_sh hc]
  | _ => rfl
end
end Dat

/-! DatFr2 -/
set_option linter.all false
set_option maxRecDepth 100000
set_option maxHeartbeats 4000000
namespace Dat
open PySem L2
section
variable {m0 : Mem}
theorem addD_sh (x y : D) (m : Mem) : addD (x.sh m0.length) (y.sh m0.length) (frM m0 m) = frR m0 (addD x y m) := by
  cases x <;> cases y <;> simp only [addD, D.sh, frR]
  case str.str a b => split <;> rfl
  case tup.tup a b =>
    simp only [shL_map, List.length_map]
    split
    · simp [frR, D.sh, shL_map]
    · rfl
  case ref.ref i j =>
    simp only [frM_get]
    cases hi : m[i]? with
    | none => rfl
    | some ci =>
      cases hj : m[j]? with
      | none => cases ci <;> rfl
      | some cj =>
        cases ci <;> cases cj <;> simp only [Option.map_some, Cell.sh] <;> try rfl
        rename_i a b
        simp only [shL_map, List.length_map]
        split
        · have e : Cell.lst (List.map (D.sh m0.length) a ++ List.map (D.sh m0.length) b) = (Cell.lst (a ++ b)).sh m0.length := by simp [Cell.sh, shL_map]
          rw [e, frM_app, frM_len]
          rfl
        · rfl
theorem rep_map {α β : Type} (f : α → β) (a : List α) : ∀ k : Nat, (List.replicate k (a.map f)).flatten = ((List.replicate k a).flatten).map f
  | 0 => rfl
  | k + 1 => by rw [List.replicate_succ, List.flatten_cons, rep_map f a k, List.replicate_succ, List.flatten_cons, List.map_append]
theorem mulD_sh (x y : D) (m : Mem) : mulD (x.sh m0.length) (y.sh m0.length) (frM m0 m) = frR m0 (mulD x y m) := by
  cases x <;> cases y <;> simp only [mulD, D.sh, frR]
  case int.int a b => split <;> rfl
  case ref.int i j =>
    simp only [frM_get]
    cases hi : m[i]? with
    | none => rfl
    | some ci =>
      cases ci <;> simp only [Option.map_some, Cell.sh] <;> try rfl
      rename_i a
      simp only [shL_map, List.length_map]
      split
      · have e : Cell.lst (List.replicate j.toNat (List.map (D.sh m0.length) a)).flatten = (Cell.lst (List.replicate j.toNat a).flatten).sh m0.length := by simp only [Cell.sh, shL_map, rep_map]
        rw [e, frM_app, frM_len]
        rfl
      · rfl
theorem binD_sh (op : Operator) (x y : D) (m : Mem) : binD op (x.sh m0.length) (y.sh m0.length) (frM m0 m) = frR m0 (binD op x y m) := by
  cases op <;> simp only [binD, addD_sh, mulD_sh, frR]
  all_goals (cases x <;> cases y <;> simp only [D.sh, frR])
  all_goals (try split) <;> rfl
theorem negD_sh (x : D) (m : Mem) : negD (x.sh m0.length) (frM m0 m) = frR m0 (negD x m) := by cases x <;> rfl
theorem liftB_sh (o : Option Bool) (f : Bool → D) (hf : ∀ b, (f b).sh m0.length = f b) (m : Mem) : liftO (frM m0 m) (o.map f) = frR m0 (liftO m (o.map f)) := by
  cases o <;> simp [liftO, frR, hf]
theorem eqD_sh (x y : D) (m : Mem) : eqD (frM m0 m) (x.sh m0.length) (y.sh m0.length) = eqD m x y := by
  unfold eqD
  rw [toPy_sh, toPy_sh]
theorem isD_sh (k : Nat) (x y : D) : isD (x.sh k) (y.sh k) = isD x y := by cases x <;> cases y <;> rfl
theorem inD_sh (x y : D) (m : Mem) : inD (frM m0 m) (x.sh m0.length) (y.sh m0.length) = inD m x y := by
  cases y <;> simp only [inD, D.sh, toPy_sh, toPy0L_sh, frM_get]
  rename_i i
  cases m[i]? with
  | none => rfl
  | some c => cases c <;> simp only [Option.map_some, Cell.sh, toPy0L_sh]
theorem cmpD_sh (op : CmpOp) (x y : D) (m : Mem) : cmpD op (x.sh m0.length) (y.sh m0.length) (frM m0 m) = frR m0 (cmpD op x y m) := by
  cases op <;> simp only [cmpD, eqD_sh, isD_sh, inD_sh]
  all_goals first
    | exact liftB_sh _ _ (fun b => rfl) m
    | (cases x <;> cases y <;> simp only [D.sh, frR] <;> exact liftB_sh _ _ (fun b => rfl) m)
theorem liftD_sh (o : Option D) (m : Mem) : liftO (frM m0 m) (o.map (D.sh m0.length)) = frR m0 (liftO m o) := by
  cases o <;> rfl
theorem atI_sh (k : Nat) (l : List D) (i : Int) : atI (D.shL k l) i = (atI l i).map (D.sh k) := by
  unfold atI
  rw [shL_map, List.length_map]
  cases ixN l.length i <;> simp
theorem idxD_sh (x y : D) (m : Mem) : idxD (x.sh m0.length) (y.sh m0.length) (frM m0 m) = frR m0 (idxD x y m) := by
  cases y
  case int i =>
    cases x
    case str z =>
      simp only [idxD, D.sh]
      split
      · cases atI z.cps.toList i <;> rfl
      · rfl
    all_goals
      simp only [idxD, D.sh]
      first
        | rfl
        | (have e := seqD_sh (m0 := m0) (m := m)
           simp only [seqD, frM_get])
    all_goals first
      | (simp only [atI_sh]; exact liftD_sh _ _)
      | skip
    rename_i j
    cases m[j]? with
    | none => rfl
    | some c => cases c <;> simp only [Option.map_some, Cell.sh, atI_sh] <;> first | rfl | exact liftD_sh _ _
  all_goals (cases x <;> rfl)
theorem cut_sh (k : Nat) (a : List D) (l h : Option Int) : cutD (D.shL k a) l h = D.shL k (cutD a l h) := by
  unfold cutD
  simp only [shL_map, List.length_map, List.map_take, List.map_drop]
theorem slcD_sh (x : D) (l h : Option Int) (m : Mem) : slcD (x.sh m0.length) l h (frM m0 m) = frR m0 (slcD x l h m) := by
  have go : ∀ a : List D, (Res.ok (D.ref (frM m0 m).length) (frM m0 m ++ [Cell.lst (cutD (D.shL m0.length a) l h)]) : Res D) = frR m0 (.ok (.ref m.length) (m ++ [.lst (cutD a l h)])) := fun a => by
    have e : Cell.lst (cutD (D.shL m0.length a) l h) = (Cell.lst (cutD a l h)).sh m0.length := by simp only [Cell.sh, cut_sh]
    rw [e, frM_app, frM_len]
    rfl
  cases x <;> simp only [slcD, D.sh, frR, cut_sh]
  case fro a => rw [← cut_sh]; exact go a
  case ref i =>
    simp only [frM_get]
    cases m[i]? with
    | none => rfl
    | some c => cases c <;> simp only [Option.map_some, Cell.sh] <;> first | rfl | exact go _
theorem newL_sh (l : List D) (m : Mem) : (Res.ok (D.ref (frM m0 m).length) (frM m0 m ++ [Cell.lst (D.shL m0.length l)]) : Res D) = frR m0 (.ok (.ref m.length) (m ++ [.lst l])) := by
  have e : Cell.lst (D.shL m0.length l) = (Cell.lst l).sh m0.length := rfl
  rw [e, frM_app, frM_len]
  rfl
theorem shL_len (k : Nat) (l : List D) : (D.shL k l).length = l.length := by rw [shL_map, List.length_map]
theorem bltD_sh (b : Blt) (l : List D) (m : Mem) : bltD b (D.shL m0.length l) (frM m0 m) = frR m0 (bltD b l m) := by
  match l with
  | [] => cases b <;> rfl
  | [x] =>
    cases b
    case abs => cases x <;> rfl
    case len =>
      cases x
      case str z => simp only [D.shL, D.sh, bltD]; split <;> rfl
      case ref i =>
        simp only [D.shL, D.sh, bltD, seqD, frM_get]
        cases m[i]? with
        | none => rfl
        | some c => cases c <;> simp only [Option.map_some, Cell.sh, shL_len] <;> rfl
      all_goals simp only [D.shL, D.sh, bltD, seqD, shL_len] <;> rfl
    case int => cases x <;> rfl
    case str => cases x <;> first | rfl | (simp only [D.shL, D.sh, bltD]; split <;> rfl)
    case list =>
      have e := seqD_sh (m0 := m0) (m := m) x
      simp only [D.shL, bltD, e]
      cases seqD m x with
      | none => rfl
      | some l => exact newL_sh l m
    case tuple =>
      cases x
      case ref i =>
        simp only [D.shL, D.sh, bltD, seqD, frM_get]
        cases m[i]? with
        | none => rfl
        | some c => cases c <;> rfl
      all_goals rfl
    all_goals (cases x <;> rfl)
  | [x, y] => cases b <;> cases x <;> cases y <;> rfl
  | _ :: _ :: _ :: _ => cases b <;> simp [bltD, D.shL, frR]
theorem erase_map {α β : Type} (f : α → β) : ∀ (l : List α) (j : Nat), (l.map f).eraseIdx j = (l.eraseIdx j).map f
  | [], _ => rfl
  | _ :: _, 0 => rfl
  | x :: l, j + 1 => by simp [List.eraseIdx_cons_succ, erase_map f l j]
theorem mthD_sh (q : Mth) (o : D) (l : List D) (m : Mem) : mthD q (o.sh m0.length) (D.shL m0.length l) (frM m0 m) = frR m0 (mthD q o l m) := by
  cases o
  case ref a =>
    simp only [D.sh, mthD, frM_get]
    cases ha : m[a]? with
    | none => rfl
    | some c =>
      cases c
      case lst xs =>
        simp only [Option.map_some, Cell.sh]
        match q, l with
        | .append, [] => rfl
        | .append, [y] =>
          simp only [D.shL, shL_len]
          split
          · have e : Cell.lst (D.shL m0.length xs ++ [D.sh m0.length y]) = (Cell.lst (xs ++ [y])).sh m0.length := by simp [Cell.sh, shL_map]
            rw [e, frM_set]
            rfl
          · rfl
        | .append, _ :: _ :: _ => rfl
        | .pop, [] =>
          simp only [D.shL, shL_len]
          rw [shL_map, List.getElem?_map]
          cases xs[xs.length - 1]? with
          | none => rfl
          | some y =>
            have e : Cell.lst (List.map (D.sh m0.length) xs).dropLast = (Cell.lst xs.dropLast).sh m0.length := by simp [Cell.sh, shL_map, List.map_dropLast]
            simp only [Option.map_some]
            rw [e, frM_set]
            rfl
        | .pop, _ :: _ => rfl
        | .popAt, [] => rfl
        | .popAt, [y] =>
          cases y
          case int i =>
            simp only [D.shL, D.sh, shL_len]
            split
            · cases seqIndex? i xs.length with
              | none => rfl
              | some j =>
                simp only [shL_map, List.getElem?_map]
                cases xs[j]? with
                | none => rfl
                | some y =>
                  have e : Cell.lst ((List.map (D.sh m0.length) xs).eraseIdx j) = (Cell.lst (xs.eraseIdx j)).sh m0.length := by simp only [Cell.sh, shL_map, erase_map]
                  simp only [Option.map_some]
                  rw [e, frM_set]
                  rfl
            · rfl
          all_goals rfl
        | .popAt, x :: _ :: _ => cases x <;> rfl
        | .insert, _ => rfl
        | .extend, _ => rfl
      all_goals (cases q <;> rfl)
  all_goals rfl
theorem isL_sh (o : D) (m : Mem) : isL (frM m0 m) (o.sh m0.length) = isL m o := by
  cases o
  case ref a =>
    simp only [D.sh, isL, frM_get]
    cases m[a]? with
    | none => rfl
    | some c => cases c <;> rfl
  all_goals rfl
theorem env_get (k : Nat) (env : EnvD) (i : Nat) : (EnvD.sh k env)[i]? = (env[i]?).map (Option.map (D.sh k)) := by
  unfold EnvD.sh
  rw [List.getElem?_map]
theorem env_set (k : Nat) (env : EnvD) (i : Nat) (d : D) : (EnvD.sh k env).set i (some (d.sh k)) = EnvD.sh k (env.set i (some d)) := by
  unfold EnvD.sh
  rw [List.map_set] <;> rfl
theorem env_setN (k : Nat) (env : EnvD) (i : Nat) : (EnvD.sh k env).set i none = EnvD.sh k (env.set i none) := by
  unfold EnvD.sh
  rw [List.map_set] <;> rfl
theorem env_len (k : Nat) (env : EnvD) : (EnvD.sh k env).length = env.length := by simp [EnvD.sh]
theorem wipe_sh (k : Nat) (env : EnvD) : ∀ vs : List Nat, wipeE (EnvD.sh k env) vs = EnvD.sh k (wipeE env vs)
  | [] => rfl
  | v :: vs => by rw [wipeE, wipe_sh k env vs, env_setN, wipeE]
mutual
theorem asgT_sh {m : Mem} : ∀ (t : Tg) (d : D) (env : EnvD), asgT (frM m0 m) t (d.sh m0.length) (EnvD.sh m0.length env) = (asgT m t d env).map (EnvD.sh m0.length)
  | .var i, d, env => by
    rw [asgT, asgT, env_len]
    split
    · rw [env_set] <;> rfl
    · rfl
  | .tup ts, d, env => by
    rw [asgT, asgT, seqD_sh]
    cases seqD m d with
    | none => rfl
    | some ds => exact asgTs_sh ts ds env
theorem asgTs_sh {m : Mem} : ∀ (t : List Tg) (d : List D) (env : EnvD), asgTs (frM m0 m) t (D.shL m0.length d) (EnvD.sh m0.length env) = (asgTs m t d env).map (EnvD.sh m0.length)
  | [], [], env => by simp [asgTs, D.shL]
  | t :: ts, d :: ds, env => by
    simp only [asgTs, D.shL, asgT_sh t d env]
    cases asgT m t d env with
    | none => rfl
    | some e => exact asgTs_sh ts ds e
  | [], d :: ds, env => by simp [asgTs, D.shL]
  | t :: ts, [], env => by simp [asgTs, D.shL]
end
theorem seqW_sh (x : D) (m : Mem) : seqW (x.sh m0.length) (frM m0 m) = frI m0 (seqW x m) := by
  cases x
  case ref i =>
    simp only [D.sh, seqW, frM_get]
    cases m[i]? with
    | none => rfl
    | some c => cases c <;> rfl
  all_goals rfl
theorem rngL_sh (k : Nat) (a : Int) (n : Nat) : D.shL k (rngL a n) = rngL a n := by
  unfold rngL
  rw [shL_map, List.map_map]
  rfl
theorem rngD_sh (ds : List D) (m : Mem) : rngD (D.shL m0.length ds) (frM m0 m) = frI m0 (rngD ds m) := by
  match ds with
  | [] => rfl
  | [x] => cases x <;> rfl
  | [x, y] =>
    cases x <;> cases y <;> first | rfl | skip
    simp only [D.shL, D.sh, rngD]
    split
    · simp only [frI, rngL_sh]; rfl
    · rfl
  | x :: y :: _ :: _ => cases x <;> cases y <;> rfl
theorem zip_sh (k : Nat) (l j : List D) : (List.map (fun p : D × D => D.tup [p.1, p.2]) ((D.shL k l).zip (D.shL k j))) = D.shL k ((l.zip j).map fun p => .tup [p.1, p.2]) := by
  simp only [shL_map, List.zip_map, List.map_map]
  refine List.map_congr_left fun p _ => ?_
  simp [D.sh, D.shL]
theorem zipD_sh (ds : List D) (m : Mem) : zipD (D.shL m0.length ds) (frM m0 m) = frI m0 (zipD ds m) := by
  match ds with
  | [] => rfl
  | [x] => cases x <;> rfl
  | [x, y] =>
    cases x <;> cases y <;> first | rfl | skip
    simp only [D.shL, D.sh, zipD, frI, zip_sh]
    rfl
  | x :: y :: _ :: _ => cases x <;> cases y <;> rfl
mutual
theorem sh_inj {k : Nat} : ∀ a b : D, a.sh k = b.sh k → a = b
  | .tup l, b, h => by cases b <;> simp [D.sh] at h ⊢; exact shL_inj l _ h
  | .fro l, b, h => by cases b <;> simp [D.sh] at h ⊢; exact shL_inj l _ h
  | .ref i, b, h => by cases b <;> simp [D.sh] at h ⊢; omega
  | .non, b, h => by cases b <;> simp [D.sh] at h ⊢
  | .bl _, b, h => by cases b <;> simp [D.sh] at h ⊢; exact h
  | .int _, b, h => by cases b <;> simp [D.sh] at h ⊢; exact h
  | .str _, b, h => by cases b <;> simp [D.sh] at h ⊢; exact h
theorem shL_inj {k : Nat} : ∀ a b : List D, D.shL k a = D.shL k b → a = b
  | [], b, h => by cases b <;> simp [D.shL] at h ⊢
  | x :: l, b, h => by
    cases b
    · simp [D.shL] at h
    · simp only [D.shL, List.cons.injEq] at h
      rw [sh_inj x _ h.1, shL_inj l _ h.2]
end
theorem chkW_sh (o : Option (Nat × List D)) (m : Mem) : chkW (shO m0.length o) (frM m0 m) ↔ chkW o m := by
  cases o with
  | none => exact Iff.rfl
  | some p =>
    obtain ⟨i, ds⟩ := p
    show (frM m0 m)[m0.length + i]? = some (.lst (D.shL m0.length ds)) ↔ m[i]? = some (.lst ds)
    rw [frM_get]
    cases m[i]? with
    | none => simp
    | some c =>
      cases c <;> simp [Cell.sh]
      exact ⟨shL_inj _ _, fun h => by rw [h]⟩
def frU (m0 : Mem) : Res Unit → Res Unit
  | .ok a m => .ok a (frM m0 m)
  | .exn c p m => .exn c (p.map (D.sh m0.length)) (frM m0 m)
  | .stuck => .stuck
theorem setD_sh (o i v : D) (m : Mem) : setD (o.sh m0.length) (i.sh m0.length) (v.sh m0.length) (frM m0 m) = frU m0 (setD o i v m) := by
  cases o
  case ref a =>
    cases i
    case int q =>
      simp only [D.sh, setD, frM_get]
      cases m[a]? with
      | none => rfl
      | some c =>
        cases c <;> simp only [Option.map_some, Cell.sh] <;> try rfl
        rename_i xs
        rw [shL_len]
        cases ixN xs.length q with
        | none => rfl
        | some j =>
          have e : Cell.lst ((D.shL m0.length xs).set j (v.sh m0.length)) = (Cell.lst (xs.set j v)).sh m0.length := by simp [Cell.sh, shL_map, List.map_set]
          simp only
          rw [e, frM_set]
          rfl
    all_goals rfl
  all_goals (cases i <;> rfl)
end
end Dat

/-! DatFr3 -/
set_option linter.all false
set_option maxRecDepth 100000
set_option maxHeartbeats 4000000
namespace Dat
open PySem L2
mutual
theorem sh_con {k : Nat} : ∀ d : D, D.undr 0 d = true → d.sh k = d
  | .tup l, h => by simp only [D.sh]; rw [shL_con l (by simpa [D.undr] using h)]
  | .fro l, h => by simp only [D.sh]; rw [shL_con l (by simpa [D.undr] using h)]
  | .ref i, h => by simp [D.undr] at h
  | .non, _ => rfl
  | .bl _, _ => rfl
  | .int _, _ => rfl
  | .str _, _ => rfl
theorem shL_con {k : Nat} : ∀ l : List D, D.undrL 0 l = true → D.shL k l = l
  | [], _ => rfl
  | d :: l, h => by
    have h2 : D.undr 0 d = true ∧ D.undrL 0 l = true := by simpa [D.undrL] using h
    rw [D.shL, sh_con d h2.1, shL_con l h2.2]
end
mutual
/-- its constants name no place -/
def okE : IE → Bool
  | .con d => D.undr 0 d
  | .glo _ d => D.undr 0 d
  | .bin _ a b => okE a && okE b
  | .neg a => okE a
  | .notE a => okE a
  | .cmp _ a b => okE a && okE b
  | .cmp2 _ _ a b c => okE a && (okE b && okE c)
  | .andE a b => okE a && okE b
  | .orE a b => okE a && okE b
  | .ifE a b c => okE a && (okE b && okE c)
  | .idx a b => okE a && okE b
  | .slc _ _ a b c => okE a && (okE b && okE c)
  | .tup l => okEs l
  | .lst l => okEs l
  | .call _ l => okEs l
  | .blt _ l => okEs l
  | .mth _ o l => okE o && okEs l
  | .comp _ it c e _ => okI it && (okE c && okE e)
  | .told _ e => okE e
  | .lrev e => okE e
  | .var _ => true
  | .nop => true
def okEs : List IE → Bool
  | [] => true
  | e :: l => okE e && okEs l
def okI : II → Bool
  | .seq e => okE e
  | .rng1 l => okEs l
  | .rng l => okEs l
  | .rev e => okE e
  | .enm e => okE e
  | .zip l => okEs l
end
structure CtlFr (m0 : Mem) (C C' : Ctl) : Prop where
  call : ∀ f ds m, C'.call f (D.shL m0.length ds) (frM m0 m) = frR m0 (C.call f ds m)
  call2 : ∀ f ds m, C'.call2 f (D.shL m0.length ds) (frM m0 m) = frR m0 (C.call2 f ds m)
  told : C'.told = C.told
  sub : C'.sub = C.sub
  turns : C'.turns = C.turns
theorem CtlFr.inner {m0 : Mem} {C C' : Ctl} (h : CtlFr m0 C C') : CtlFr m0 C.inner C'.inner := ⟨h.call2, h.call2, rfl, h.sub, h.turns⟩
section
variable {m0 : Mem} {C C' : Ctl}
theorem bindR {r : Res D} {f g : D → Mem → Res D} (h : ∀ a m, g (a.sh m0.length) (frM m0 m) = frR m0 (f a m)) : (frR m0 r).bind g = frR m0 (r.bind f) := by
  cases r with
  | ok a m => exact h a m
  | _ => rfl
theorem bindRs {r : Res (List D)} {f g : List D → Mem → Res D} (h : ∀ a m, g (D.shL m0.length a) (frM m0 m) = frR m0 (f a m)) : (frRs m0 r).bind g = frR m0 (r.bind f) := by
  cases r with
  | ok a m => exact h a m
  | _ => rfl
theorem bindRI {r : Res D} {f g : D → Mem → Res Items} (h : ∀ a m, g (a.sh m0.length) (frM m0 m) = frI m0 (f a m)) : (frR m0 r).bind g = frI m0 (r.bind f) := by
  cases r with
  | ok a m => exact h a m
  | _ => rfl
theorem bindRsI {r : Res (List D)} {f g : List D → Mem → Res Items} (h : ∀ a m, g (D.shL m0.length a) (frM m0 m) = frI m0 (f a m)) : (frRs m0 r).bind g = frI m0 (r.bind f) := by
  cases r with
  | ok a m => exact h a m
  | _ => rfl
theorem bindRRs {r : Res D} {f g : D → Mem → Res (List D)} (h : ∀ a m, g (a.sh m0.length) (frM m0 m) = frRs m0 (f a m)) : (frR m0 r).bind g = frRs m0 (r.bind f) := by
  cases r with
  | ok a m => exact h a m
  | _ => rfl
theorem bindRsRs {r : Res (List D)} {f g : List D → Mem → Res (List D)} (h : ∀ a m, g (D.shL m0.length a) (frM m0 m) = frRs m0 (f a m)) : (frRs m0 r).bind g = frRs m0 (r.bind f) := by
  cases r with
  | ok a m => exact h a m
  | _ => rfl
theorem bindI {r : Res Items} {f g : Items → Mem → Res D} (h : ∀ a m, g (D.shL m0.length a.1, shO m0.length a.2) (frM m0 m) = frR m0 (f a m)) : (frI m0 r).bind g = frR m0 (r.bind f) := by
  cases r with
  | ok a m => exact h a m
  | _ => rfl
theorem bindII {r : Res Items} {f g : Items → Mem → Res Items} (h : ∀ a m, g (D.shL m0.length a.1, shO m0.length a.2) (frM m0 m) = frI m0 (f a m)) : (frI m0 r).bind g = frI m0 (r.bind f) := by
  cases r with
  | ok a m => exact h a m
  | _ => rfl
theorem asB_sh {x : D} {f g : Bool → Res D} (h : ∀ b, g b = frR m0 (f b)) : asB (x.sh m0.length) g = frR m0 (asB x f) := by
  cases x with
  | bl b => exact h b
  | _ => rfl
theorem part_sh (k : Nat) (b : Bool) (d : D) : partD b (d.sh k) = partD b d := by
  unfold partD
  cases b <;> cases d <;> rfl
def frOp (m0 : Mem) : Res (Option D) → Res (Option D)
  | .ok a m => .ok (a.map (D.sh m0.length)) (frM m0 m)
  | .exn c p m => .exn c (p.map (D.sh m0.length)) (frM m0 m)
  | .stuck => .stuck
theorem compL_sh {o : Option (Nat × List D)} {f g : D → Mem → Res (Option D)} (h : ∀ d m, g (d.sh m0.length) (frM m0 m) = frOp m0 (f d m)) : ∀ (l : List D) (m : Mem), compL (shO m0.length o) g (D.shL m0.length l) (frM m0 m) = frRs m0 (compL o f l m)
  | [], m => by
    simp only [D.shL, compL, chkW_sh]
    split <;> rfl
  | d :: l, m => by
    simp only [D.shL, compL, chkW_sh, h]
    split
    · cases f d m with
      | stuck => rfl
      | exn _ _ _ => rfl
      | ok r m1 =>
        simp only [frOp, Res.bind]
        rw [compL_sh h l m1]
        cases compL o f l m1 with
        | stuck => rfl
        | exn _ _ _ => rfl
        | ok l2 m2 => cases r <;> rfl
    · rfl
theorem enm_sh (k : Nat) (l : List D) : ((D.shL k l).zipIdx).map (fun p : D × Nat => D.tup [.int (p.2 : Nat), p.1]) = D.shL k ((l.zipIdx).map fun p => .tup [.int (p.2 : Nat), p.1]) := by
  rw [shL_map, shL_map, List.zipIdx_map, List.map_map, List.map_map]
  rfl
theorem rev_shL (k : Nat) (l : List D) : (D.shL k l).reverse = D.shL k l.reverse := by rw [shL_map, shL_map, List.map_reverse]
variable (hc : Clo m0)
include hc
mutual
theorem frE : ∀ (e : IE), okE e = true → ∀ (C C' : Ctl) (env : EnvD) (m : Mem), CtlFr m0 C C' → evalE e C' (EnvD.sh m0.length env) (frM m0 m) = frR m0 (evalE e C env m)
  | .var i, _, C, C', env, m, h => by
    simp only [e_var, env_get]
    cases env[i]? with
    | none => rfl
    | some o => cases o <;> rfl
  | .con d, ok, C, C', env, m, h => by
    simp only [e_con, frR]
    rw [sh_con d (by simpa [okE] using ok)]
  | .glo x d, ok, C, C', env, m, h => by
    simp only [e_glo, frR]
    rw [sh_con d (by simpa [okE] using ok)]
  | .nop, _, C, C', env, m, h => by simp only [e_nop]; rfl
  | .bin op a b, ok, C, C', env, m, h => by
    simp only [okE, Bool.and_eq_true] at ok
    rw [e_bin, e_bin, frE a ok.1 C C' env m h]
    refine bindR fun x m1 => ?_
    rw [frE b ok.2 C C' env m1 h]
    exact bindR fun y m2 => binD_sh op x y m2
  | .neg a, ok, C, C', env, m, h => by
    simp only [okE] at ok
    rw [e_neg, e_neg, frE a ok C C' env m h]
    exact bindR fun x m1 => negD_sh x m1
  | .notE a, ok, C, C', env, m, h => by
    simp only [okE] at ok
    rw [e_not, e_not, frE a ok C C' env m h]
    exact bindR fun x m1 => asB_sh fun b => rfl
  | .cmp op a b, ok, C, C', env, m, h => by
    simp only [okE, Bool.and_eq_true] at ok
    rw [e_cmp, e_cmp, frE a ok.1 C C' env m h]
    refine bindR fun x m1 => ?_
    rw [frE b ok.2 C C' env m1 h]
    exact bindR fun y m2 => cmpD_sh op x y m2
  | .cmp2 o1 o2 a b c, ok, C, C', env, m, h => by
    simp only [okE, Bool.and_eq_true] at ok
    rw [e_cmp2, e_cmp2, frE a ok.1 C C' env m h]
    refine bindR fun x m1 => ?_
    rw [frE b ok.2.1 C C' env m1 h]
    refine bindR fun y m2 => ?_
    rw [cmpD_sh]
    refine bindR fun r m3 => asB_sh fun t => ?_
    cases t with
    | true =>
      simp only [if_true]
      rw [frE c ok.2.2 C C' env m3 h]
      exact bindR fun z m4 => cmpD_sh o2 y z m4
    | false => rfl
  | .andE a b, ok, C, C', env, m, h => by
    simp only [okE, Bool.and_eq_true] at ok
    rw [e_and, e_and, frE a ok.1 C C' env m h]
    refine bindR fun x m1 => asB_sh fun t => ?_
    cases t with
    | true => exact frE b ok.2 C C' env m1 h
    | false => simp only [selE_f, e_con]; rfl
  | .orE a b, ok, C, C', env, m, h => by
    simp only [okE, Bool.and_eq_true] at ok
    rw [e_or, e_or, frE a ok.1 C C' env m h]
    refine bindR fun x m1 => asB_sh fun t => ?_
    cases t with
    | true => simp only [selE_t, e_con]; rfl
    | false => exact frE b ok.2 C C' env m1 h
  | .ifE c a b, ok, C, C', env, m, h => by
    simp only [okE, Bool.and_eq_true] at ok
    rw [e_if, e_if, frE c ok.1 C C' env m h]
    refine bindR fun x m1 => asB_sh fun t => ?_
    cases t with
    | true => exact frE a ok.2.1 C C' env m1 h
    | false => exact frE b ok.2.2 C C' env m1 h
  | .idx a b, ok, C, C', env, m, h => by
    simp only [okE, Bool.and_eq_true] at ok
    rw [e_idx, e_idx, frE a ok.1 C C' env m h]
    refine bindR fun x m1 => ?_
    rw [frE b ok.2 C C' env m1 h]
    exact bindR fun y m2 => idxD_sh x y m2
  | .slc bl bh a lo hi, ok, C, C', env, m, h => by
    simp only [okE, Bool.and_eq_true] at ok
    simp only [evalE]
    rw [frE a ok.1 C C' env m h]
    refine bindR fun x m1 => ?_
    rw [frE lo ok.2.1 C C' env m1 h]
    refine bindR fun l m2 => ?_
    rw [part_sh]
    cases partD bl l with
    | none => rfl
    | some l' =>
      simp only
      rw [frE hi ok.2.2 C C' env m2 h]
      refine bindR fun hh m3 => ?_
      rw [part_sh]
      cases partD bh hh with
      | none => rfl
      | some h' => exact slcD_sh x l' h' m3
  | .tup l, ok, C, C', env, m, h => by
    simp only [okE] at ok
    rw [e_tup, e_tup, frEs l ok C C' env m h]
    refine bindRs fun ds m1 => ?_
    rw [shL_len]
    split <;> rfl
  | .lst l, ok, C, C', env, m, h => by
    simp only [okE] at ok
    rw [e_lst, e_lst, frEs l ok C C' env m h]
    refine bindRs fun ds m1 => ?_
    rw [shL_len]
    split
    · exact newL_sh ds m1
    · rfl
  | .call f l, ok, C, C', env, m, h => by
    simp only [okE] at ok
    rw [e_call, e_call, frEs l ok C C' env m h]
    exact bindRs fun ds m1 => h.call f ds m1
  | .blt b l, ok, C, C', env, m, h => by
    simp only [okE] at ok
    rw [e_blt, e_blt, frEs l ok C C' env m h]
    exact bindRs fun ds m1 => bltD_sh b ds m1
  | .mth q o l, ok, C, C', env, m, h => by
    simp only [okE, Bool.and_eq_true] at ok
    rw [e_mth, e_mth, frE o ok.1 C C' env m h]
    refine bindR fun x m1 => ?_
    rw [isL_sh]
    split
    · rw [frEs l ok.2 C C' env m1 h]
      exact bindRs fun ds m2 => mthD_sh q x ds m2
    · rfl
  | .comp tg it c e own, ok, C, C', env, m, h => by
    simp only [okE, Bool.and_eq_true] at ok
    simp only [evalE]
    rw [frI_ it ok.1 C C' env m h]
    refine bindI fun I m1 => ?_
    rw [compL_sh (f := fun d m2 => match asgT m2 tg d (wipeE env own) with
        | some env2 => (match evalE c C env2 m2 with
          | .ok (.bl true) m3 => (match evalE e C env2 m3 with
            | .ok x m4 => .ok (some x) m4
            | _ => .stuck)
          | .ok (.bl false) m3 => .ok none m3
          | _ => .stuck)
        | none => .stuck) (fun d m2 => ?_)]
    · refine bindRs fun l m2 => ?_
      rw [shL_len]
      split
      · exact newL_sh l m2
      · rfl
    · simp only [wipe_sh, asgT_sh]
      cases asgT m2 tg d (wipeE env own) with
      | none => rfl
      | some env2 =>
        simp only [Option.map_some]
        rw [frE c ok.2.1 C C' env2 m2 h]
        cases evalE c C env2 m2 with
        | stuck => rfl
        | exn _ _ _ => rfl
        | ok t m3 =>
          cases t with
          | bl t =>
            cases t with
            | true =>
              simp only [frR, D.sh]
              rw [frE e ok.2.2 C C' env2 m3 h]
              cases evalE e C env2 m3 <;> rfl
            | false => rfl
          | _ => rfl
  | .told f e, ok, C, C', env, m, h => by
    simp only [okE] at ok
    simp only [evalE]
    rw [h.told]
    cases C.told.lookup f with
    | none => rfl
    | some cl =>
      simp only
      rw [frE e ok C.inner C'.inner env m h.inner, frM_len]
      cases evalE e C.inner env m with
      | stuck => rfl
      | ok d m1 => exact gc_sh hc (r := .ok d m1)
      | exn c p m1 =>
        simp only [frR]
        rw [h.sub]
        cases toldM C.sub c cl with
        | none => rfl
        | some s => exact gc_sh hc (r := .ok (.str s) m1)
  | .lrev e, ok, C, C', env, m, h => by
    simp only [okE] at ok
    simp only [evalE]
    rw [frE e ok C C' env m h]
    refine bindR fun x m1 => ?_
    rw [seqD_sh]
    cases seqD m1 x with
    | none => rfl
    | some l =>
      simp only [Option.map_some]
      rw [rev_shL]
      exact newL_sh _ _
theorem frEs : ∀ (l : List IE), okEs l = true → ∀ (C C' : Ctl) (env : EnvD) (m : Mem), CtlFr m0 C C' → evalEs l C' (EnvD.sh m0.length env) (frM m0 m) = frRs m0 (evalEs l C env m)
  | [], _, C, C', env, m, h => by rw [es_nil, es_nil] <;> rfl
  | e :: l, ok, C, C', env, m, h => by
    simp only [okEs, Bool.and_eq_true] at ok
    rw [es_cons, es_cons, frE e ok.1 C C' env m h]
    refine bindRRs fun d m1 => ?_
    rw [frEs l ok.2 C C' env m1 h]
    exact bindRsRs fun ds m2 => rfl
theorem frI_ : ∀ (it : II), okI it = true → ∀ (C C' : Ctl) (env : EnvD) (m : Mem), CtlFr m0 C C' → evalI it C' (EnvD.sh m0.length env) (frM m0 m) = frI m0 (evalI it C env m)
  | .seq e, ok, C, C', env, m, h => by
    simp only [okI] at ok
    simp only [evalI]
    rw [frE e ok C C' env m h]
    exact bindRI fun x m1 => seqW_sh x m1
  | .rng1 l, ok, C, C', env, m, h => by
    simp only [okI] at ok
    simp only [evalI]
    rw [frEs l ok C C' env m h]
    exact bindRsI fun ds m1 => rngD_sh (.int 0 :: ds) m1
  | .rng l, ok, C, C', env, m, h => by
    simp only [okI] at ok
    simp only [evalI]
    rw [frEs l ok C C' env m h]
    exact bindRsI fun ds m1 => rngD_sh ds m1
  | .rev e, ok, C, C', env, m, h => by
    simp only [okI] at ok
    simp only [evalI]
    rw [frE e ok C C' env m h]
    refine bindRI fun x m1 => ?_
    rw [seqW_sh]
    refine bindII fun I m2 => ?_
    simp only [frI, rev_shL]
  | .enm e, ok, C, C', env, m, h => by
    simp only [okI] at ok
    simp only [evalI]
    rw [frE e ok C C' env m h]
    refine bindRI fun x m1 => ?_
    rw [seqW_sh]
    refine bindII fun I m2 => ?_
    simp only [frI, enm_sh]
  | .zip l, ok, C, C', env, m, h => by
    simp only [okI] at ok
    simp only [evalI]
    rw [frEs l ok C C' env m h]
    exact bindRsI fun ds m1 => zipD_sh ds m1
end
end
end Dat

/-! DatFr4 -/
set_option linter.all false
set_option maxRecDepth 100000
set_option maxHeartbeats 4000000
namespace Dat
open PySem L2
mutual
def okS : IS → Bool
  | .expr e => okE e
  | .asg _ e => okE e
  | .aug _ _ e => okE e
  | .setI o i e => okE o && (okE i && okE e)
  | .ifS c a b => okE c && (okB a && okB b)
  | .whl c b => okE c && okB b
  | .forS _ it b => okI it && okB b
  | .ret e => okE e
  | .retN => true
  | .rais _ => true
  | .pass => true
  | .brk => true
  | .cnt => true
def okB : List IS → Bool
  | [] => true
  | s :: r => okS s && okB r
end
section
variable {m0 : Mem} {C C' : Ctl}
theorem outR {r : Res D} {env : EnvD} {f g : D → Mem → Out} (h : ∀ a m, g (a.sh m0.length) (frM m0 m) = frO m0 (f a m)) : (frR m0 r).out (EnvD.sh m0.length env) g = frO m0 (r.out env f) := by
  cases r with
  | ok a m => exact h a m
  | _ => rfl
theorem outI {r : Res Items} {env : EnvD} {f g : Items → Mem → Out} (h : ∀ a m, g (D.shL m0.length a.1, shO m0.length a.2) (frM m0 m) = frO m0 (f a m)) : (frI m0 r).out (EnvD.sh m0.length env) g = frO m0 (r.out env f) := by
  cases r with
  | ok a m => exact h a m
  | _ => rfl
theorem tst_sh (hc : Clo m0) {r : Res D} {env : EnvD} {n : Nat} {f g : Bool → Mem → Out} (h : ∀ b m, g b (frM m0 m) = frO m0 (f b m)) : tstO (EnvD.sh m0.length env) (frR m0 r) (m0.length + n) g = frO m0 (tstO env r n f) := by
  unfold tstO
  rw [gc_sh hc]
  refine outR fun a m => ?_
  cases a with
  | bl b => exact h b m
  | _ => rfl
theorem seq_sh {o : Out} {f g : EnvD → Mem → Out} (h : ∀ e m, g (EnvD.sh m0.length e) (frM m0 m) = frO m0 (f e m)) : (frO m0 o).seq g = frO m0 (o.seq f) := by
  cases o with
  | nx e m => exact h e m
  | _ => rfl
theorem while_sh (hc : Clo m0) {c c' : EnvD → Mem → Res D} {b b' : EnvD → Mem → Out} (h1 : ∀ e m, c' (EnvD.sh m0.length e) (frM m0 m) = frR m0 (c e m)) (h2 : ∀ e m, b' (EnvD.sh m0.length e) (frM m0 m) = frO m0 (b e m)) :
    ∀ (n : Nat) (e : EnvD) (m : Mem), whileN c' b' n (EnvD.sh m0.length e) (frM m0 m) = frO m0 (whileN c b n e m)
  | 0, _, _ => rfl
  | n + 1, e, m => by
    rw [while_succ, while_succ, h1, frM_len]
    refine tst_sh hc fun t m1 => ?_
    cases t with
    | false => rfl
    | true =>
      simp only [if_true]
      rw [h2]
      cases b e m1 with
      | nx e m2 => exact while_sh hc h1 h2 n e m2
      | ct e m2 => exact while_sh hc h1 h2 n e m2
      | _ => rfl
theorem for_sh {o : Option (Nat × List D)} {t : Tg} {b b' : EnvD → Mem → Out} (h2 : ∀ e m, b' (EnvD.sh m0.length e) (frM m0 m) = frO m0 (b e m)) :
    ∀ (l : List D) (e : EnvD) (m : Mem), forL (shO m0.length o) t b' (D.shL m0.length l) (EnvD.sh m0.length e) (frM m0 m) = frO m0 (forL o t b l e m)
  | [], e, m => by
    simp only [D.shL, forL, chkW_sh]
    split <;> rfl
  | d :: l, e, m => by
    simp only [D.shL, forL, chkW_sh, asgT_sh]
    split
    · cases asgT m t d e with
      | none => rfl
      | some e1 =>
        simp only [Option.map_some]
        rw [h2]
        cases b e1 m with
        | nx e m2 => exact for_sh h2 l e m2
        | ct e m2 => exact for_sh h2 l e m2
        | _ => rfl
    · rfl
theorem aug_bind {r : Res D} {op : Operator} {x : D} : ((frR m0 r).bind fun y m1 => match D.sh m0.length x, y with
          | .int _, .int _ => binD op (D.sh m0.length x) y m1
          | _, _ => .stuck) = frR m0 (r.bind fun y m1 => match x, y with
          | .int _, .int _ => binD op x y m1
          | _, _ => .stuck) := by
  refine bindR fun y m1 => ?_
  cases x <;> cases y <;> first | rfl | exact binD_sh op (.int _) (.int _) m1
variable (hc : Clo m0)
include hc
mutual
theorem frS : ∀ (s : IS), okS s = true → ∀ (C C' : Ctl) (env : EnvD) (m : Mem), CtlFr m0 C C' → evalS C' s (EnvD.sh m0.length env) (frM m0 m) = frO m0 (evalS C s env m)
  | .expr e, ok, C, C', env, m, h => by
    simp only [okS] at ok
    rw [s_expr, s_expr, frE hc e ok C C' env m h, frM_len]
    have e1 : ((frR m0 (evalE e C env m)).bind fun _ m1 => (Res.ok D.non m1).gc (m0.length + m.length)) = frR m0 ((evalE e C env m).bind fun _ m1 => (Res.ok .non m1).gc m.length) := bindR fun a m1 => gc_sh hc (r := .ok .non m1)
    rw [e1]
    exact outR fun a m1 => rfl
  | .asg t e, ok, C, C', env, m, h => by
    simp only [okS] at ok
    rw [s_asg, s_asg, frE hc e ok C C' env m h, frM_len, gc_sh hc]
    refine outR fun a m1 => ?_
    rw [asgT_sh]
    cases asgT m1 t a env <;> rfl
  | .aug i op e, ok, C, C', env, m, h => by
    simp only [okS] at ok
    simp only [evalS, env_get]
    cases hi : env[i]? with
    | none => rfl
    | some o =>
      cases o with
      | none => rfl
      | some x =>
        simp only [Option.map_some]
        rw [frE hc e ok C C' env m h]
        refine (congrArg (fun r => Res.out (EnvD.sh m0.length env) r _) (aug_bind (r := evalE e C env m) (x := x) (op := op))).trans ?_
        refine outR fun z m2 => ?_
        rw [env_set] <;> rfl
  | .setI o i e, ok, C, C', env, m, h => by
    simp only [okS, Bool.and_eq_true] at ok
    simp only [evalS]
    rw [frE hc e ok.2.2 C C' env m h, frM_len]
    have e1 : ∀ (g : D → Mem → Res D) (f : D → Mem → Res D), (∀ a m, g (a.sh m0.length) (frM m0 m) = frR m0 (f a m)) → (frR m0 (evalE e C env m)).bind g = frR m0 ((evalE e C env m).bind f) := fun g f h => bindR h
    rw [e1 _ (fun v m1 => (evalE o C env m1).bind fun a m2 => (evalE i C env m2).bind fun k m3 => (setD a k v m3).bind fun _ m4 => (Res.ok .non m4).gc m.length)]
    · exact outR fun a m1 => rfl
    · intro v m1
      rw [frE hc o ok.1 C C' env m1 h]
      refine bindR fun a m2 => ?_
      rw [frE hc i ok.2.1 C C' env m2 h]
      refine bindR fun q m3 => ?_
      rw [setD_sh]
      cases setD a q v m3 with
      | ok u m4 => exact gc_sh hc (r := .ok .non m4)
      | _ => rfl
  | .ifS c a b, ok, C, C', env, m, h => by
    simp only [okS, Bool.and_eq_true] at ok
    rw [s_if, s_if, frE hc c ok.1 C C' env m h, frM_len]
    refine tst_sh hc fun t m1 => ?_
    cases t with
    | true => exact frB a ok.2.1 C C' env m1 h
    | false => exact frB b ok.2.2 C C' env m1 h
  | .whl c b, ok, C, C', env, m, h => by
    simp only [okS, Bool.and_eq_true] at ok
    rw [s_whl, s_whl, h.turns]
    exact while_sh hc (fun e m => frE hc c ok.1 C C' e m h) (fun e m => frB b ok.2 C C' e m h) _ _ _
  | .forS t it b, ok, C, C', env, m, h => by
    simp only [okS, Bool.and_eq_true] at ok
    rw [s_for, s_for, frI_ hc it ok.1 C C' env m h]
    exact outI fun I m1 => for_sh (fun e m => frB b ok.2 C C' e m h) I.1 env m1
  | .ret e, ok, C, C', env, m, h => by
    simp only [okS] at ok
    rw [s_ret, s_ret, frE hc e ok C C' env m h]
    exact outR fun a m1 => rfl
  | .retN, _, C, C', env, m, h => by simp only [evalS]; rfl
  | .rais c, _, C, C', env, m, h => by simp only [evalS]; rfl
  | .pass, _, C, C', env, m, h => by simp only [evalS]; rfl
  | .brk, _, C, C', env, m, h => by simp only [evalS]; rfl
  | .cnt, _, C, C', env, m, h => by simp only [evalS]; rfl
theorem frB : ∀ (l : List IS), okB l = true → ∀ (C C' : Ctl) (env : EnvD) (m : Mem), CtlFr m0 C C' → evalB C' l (EnvD.sh m0.length env) (frM m0 m) = frO m0 (evalB C l env m)
  | [], _, C, C', env, m, h => by rw [b_nil, b_nil] <;> rfl
  | s :: r, ok, C, C', env, m, h => by
    simp only [okB, Bool.and_eq_true] at ok
    rw [b_cons, b_cons, frS s ok.1 C C' env m h]
    exact seq_sh fun e m1 => frB r ok.2 C C' e m1 h
end
omit hc
theorem startE_sh (k np nn : Nat) (ds : List D) : startE np nn (D.shL k ds) = EnvD.sh k (startE np nn ds) := by
  unfold startE EnvD.sh
  rw [shL_map, List.map_append, List.map_map, List.map_map, List.map_replicate]
  rfl
def okP (P : Prog) : Bool := P.fns.all fun f => okB f.body
theorem run_sh (hc : Clo m0) {P : Prog} (ok : okP P = true) : ∀ (n f : Nat) (ds : List D) (m : Mem), runF P n f (D.shL m0.length ds) (frM m0 m) = frR m0 (runF P n f ds m) := by
  intro n
  induction n using Nat.strongRecOn with
  | _ n ih =>
  intro f ds m
  cases n with
  | zero => rfl
  | succ n =>
    rw [runF_succ]
    unfold stepF
    cases hf : P.fns[f]? with
    | none => rfl
    | some fi =>
      have okf : okB fi.body = true := List.all_eq_true.mp ok _ (List.mem_of_getElem? hf)
      have fr : CtlFr m0 (P.ctl (runF P n) (runF P (n - 2)) n) (P.ctl (runF P n) (runF P (n - 2)) n) := ⟨fun f ds m => ih n (by omega) f ds m, fun f ds m => ih (n - 2) (by omega) f ds m, rfl, rfl, rfl⟩
      simp only
      unfold bodyF
      rw [shL_len]
      split
      · rw [startE_sh, frB hc fi.body okf _ _ _ _ fr, frM_len]
        cases evalB (P.ctl (runF P n) (runF P (n - 2)) n) fi.body (startE fi.np fi.nn ds) m with
        | rt d m1 => exact gc_sh hc (r := .ok d m1)
        | nx e m1 => exact gc_sh hc (r := .ok .non m1)
        | exn c p e m1 => rfl
        | bk _ _ => rfl
        | ct _ _ => rfl
        | stuck => rfl
      · rfl
/-- a closed call, beside any closed memory -/
theorem run_at (hc : Clo m0) {P : Prog} (ok : okP P = true) {n f : Nat} {ds : List D} {v : D} (hd : D.undrL 0 ds = true) (h : runF P n f ds [] = .ok v []) (hv : D.undr 0 v = true) : runF P n f ds m0 = .ok v m0 := by
  have e := run_sh hc ok n f ds []
  rw [shL_con ds hd, h] at e
  simpa [frR, frM, sh_con v hv] using e
theorem run_exn (hc : Clo m0) {P : Prog} (ok : okP P = true) {n f : Nat} {ds : List D} {c : Str} (hd : D.undrL 0 ds = true) (h : runF P n f ds [] = .exn c none []) : runF P n f ds m0 = .exn c none m0 := by
  have e := run_sh hc ok n f ds []
  rw [shL_con ds hd, h] at e
  simpa [frR, frM] using e
end
end Dat

/-! Dat20 -/
set_option linter.all false
set_option maxRecDepth 100000
set_option maxHeartbeats 4000000
set_option exponentiation.threshold 10000
/-! Dat20: parts (rational numbers as pairs), as every law has them. -/
namespace Dat
open PySem L2
def irShared : List IS := [(.whl (.cmp .NotEq (.var 1) (.con (.int 0))) [(.asg (.tup [(.var 0), (.var 1)]) (.tup [(.var 1), (.bin .Mod (.var 0) (.var 1))]))]), (.ret (.blt .abs [(.var 0)]))]
def irMade (iS : Nat) : List IS := [(.ifS (.cmp .Eq (.var 1) (.con (.int 0))) [(.rais "BadNumber")] []), (.ifS (.cmp .Lt (.var 1) (.con (.int 0))) [(.asg (.tup [(.var 0), (.var 1)]) (.tup [(.neg (.var 0)), (.neg (.var 1))]))] []), (.asg (.var 2) (.call iS [(.var 0), (.var 1)])), (.ret (.tup [(.bin .FloorDiv (.var 0) (.var 2)), (.bin .FloorDiv (.var 1) (.var 2))]))]
abbrev prt (v i : Nat) : IE := .idx (.var v) (.con (.int i))
def irAdd (iM : Nat) : List IS := [(.ret (.call iM [(.bin .Add (.bin .Mult (.idx (.var 0) (.con (.int 0))) (.idx (.var 1) (.con (.int 1)))) (.bin .Mult (.idx (.var 1) (.con (.int 0))) (.idx (.var 0) (.con (.int 1))))), (.bin .Mult (.idx (.var 0) (.con (.int 1))) (.idx (.var 1) (.con (.int 1))))]))]
def irLess (iM : Nat) : List IS := [(.ret (.call iM [(.bin .Sub (.bin .Mult (.idx (.var 0) (.con (.int 0))) (.idx (.var 1) (.con (.int 1)))) (.bin .Mult (.idx (.var 1) (.con (.int 0))) (.idx (.var 0) (.con (.int 1))))), (.bin .Mult (.idx (.var 0) (.con (.int 1))) (.idx (.var 1) (.con (.int 1))))]))]
def irTimes (iM : Nat) : List IS := [(.ret (.call iM [(.bin .Mult (.idx (.var 0) (.con (.int 0))) (.idx (.var 1) (.con (.int 0)))), (.bin .Mult (.idx (.var 0) (.con (.int 1))) (.idx (.var 1) (.con (.int 1))))]))]
def irOver (iM : Nat) : List IS := [(.ret (.call iM [(.bin .Mult (.idx (.var 0) (.con (.int 0))) (.idx (.var 1) (.con (.int 1)))), (.bin .Mult (.idx (.var 0) (.con (.int 1))) (.idx (.var 1) (.con (.int 0))))]))]
def irFloor : List IS := [(.ret (.bin .FloorDiv (.idx (.var 0) (.con (.int 0))) (.idx (.var 0) (.con (.int 1)))))]
/-- the turns that a loop may take -/
abbrev big : Nat := 2 ^ 4096
theorem runF_at {P : Prog} {n i : Nat} {fi : FnI} {ds : List D} {m : Mem} (h : P.fns[i]? = some fi) (hl : ds.length = fi.np) : runF P (n + 1) i ds m = finF m.length (evalB (P.ctl (runF P n) (runF P (n - 2)) n) fi.body (startE fi.np fi.nn ds) m) := by
  rw [runF_succ]
  unfold stepF
  rw [h]
  exact body_eq hl
structure PartsOk (P : Prog) (iS iM : Nat) : Prop where
  sh : P.fns[iS]? = some ⟨2, 2, irShared⟩
  md : P.fns[iM]? = some ⟨2, 3, irMade iS⟩
  tn : P.turns = 2 ^ 4096
def encQ (q : Rat) : D := .tup [.int q.num, .int q.den]
/-- small enough for every guard -/
def Sz (q : Rat) : Prop := q.num.natAbs < 2 ^ 2000 ∧ q.den < 2 ^ 2000
theorem log2_lt {a k : Nat} (h : a < 2 ^ k) (h0 : a ≠ 0) : a.log2 < k := (Nat.log2_lt h0).mpr h
theorem mulG_of {i j : Int} {p q : Nat} (hi : i.natAbs < 2 ^ p) (hj : j.natAbs < 2 ^ q) (h : p + q ≤ 134217728) : MulG i j := by
  have bits : ∀ {x : Int} {k : Nat}, x.natAbs < 2 ^ k → (Builtin.Int.intBits x : Int) ≤ k := fun {x k} hx => by
    unfold Builtin.Int.intBits
    split
    · omega
    · rename_i h0
      have : x.natAbs ≠ 0 := fun z => h0 (by simpa using z)
      have := log2_lt hx this
      omega
  have h1 := bits hi
  have h2 := bits hj
  unfold MulG
  omega
theorem divG_of {i j : Int} (h0 : j ≠ 0) (hj : j.natAbs < 2 ^ 9000) : DivG i j := by
  refine ⟨h0, ?_⟩
  unfold Builtin.divisionGoesByPylong
  simp only [Bool.and_eq_false_iff, decide_eq_false_iff_not]
  left
  split
  · omega
  · rename_i h1
    have : j.natAbs ≠ 0 := by omega
    have := log2_lt hj this
    omega
section
variable {P : Prog} {iS iM : Nat} {n : Nat} {m : Mem}
theorem shared_ok (hP : PartsOk P iS iM) {a b : Int} (hb : b.natAbs < 2 ^ 4096) : runF P (n + 1) iS [.int a, .int b] m = .ok (.int (Int.gcd a b)) m := by
  rw [runF_at hP.sh rfl]
  have loop : ∀ (C : Ctl) (k : Nat) (a b : Int), b.natAbs < k → ∃ a' : Int, (a'.natAbs : Int) = Int.gcd a b ∧ whileN (fun e m1 => evalE (.cmp .NotEq (.var 1) (.con (.int 0))) C e m1) (fun e m1 => evalB C [(.asg (.tup [(.var 0), (.var 1)]) (.tup [(.var 1), (.bin .Mod (.var 0) (.var 1))]))] e m1) k [some (.int a), some (.int b)] m = .nx [some (.int a'), some (.int 0)] m := by
    intro C k
    induction k with
    | zero => intro a b h; omega
    | succ k ih =>
      intro a b h
      rw [while_succ]
      by_cases h0 : b = 0
      · subst h0
        refine ⟨a, by simp, ?_⟩
        simp only [fin_rt, fin_nx, fin_exn, seq_nx, seq_rt, seq_exn, seq_bk, seq_ct, bind_ok, bind_exn, out_ok, out_exn, tst_ok, tst_exn, gc_ok_, gc_exn, gcM_same, asB_bl, selB_t, selB_f, selE_t, selE_f, rdV_some, stT_some, e_var, e_con, e_glo, e_nop, t_bin, t_neg, t_not, t_cmp, t_cmp2, cmp2T_t, cmp2T_f, t_and, t_or, t_if, t_idx, t_tup, t_lst, t_call, t_blt, t_mth, mthT_t, es_nil, ts_cons, b_nil, tb_cons, ts_asg, ts_expr, ts_if, ts_ret, s_rais, seqT_nx, seqT_rt, seqT_exn, seqT_bk, seqT_ct, bindT_ok, bindT_exn, outT_ok, outT_exn, tstT_ok, tstT_exn, asBT_bl, c_eqI, c_neI, c_ltI, c_leI, c_gtI, c_geI, o_addI, o_subI, n_I, abs_N, ix_tup, lift_some, at0, at1, at2, at3, asT_var, asT_tup, asTs_nil, asTs_cons, ctl_call, List.getElem?_cons_zero, List.getElem?_cons_succ, List.set_cons_zero, List.set_cons_succ, List.length_cons, List.length_nil, List.map_cons, List.map_nil, List.cons_append, List.nil_append, List.replicate_succ, List.replicate_zero, Nat.reduceAdd, Nat.reduceSub, Nat.reduceLT, Nat.reduceLeDiff, sz, Option.bind_some, Option.bind_none, Option.map_some, Bool.false_eq_true, if_true, if_false, reduceIte, Nat.zero_add, startE, Bool.not_true, Bool.not_false, decide_true, decide_false]
      · have h1 := fmod_lt a b h0
        obtain ⟨a', e1, e2⟩ := ih b (a.fmod b) (by omega)
        refine ⟨a', by rw [e1, gcd_step], ?_⟩
        rw [← e2]
        simp only [fin_rt, fin_nx, fin_exn, seq_nx, seq_rt, seq_exn, seq_bk, seq_ct, bind_ok, bind_exn, out_ok, out_exn, tst_ok, tst_exn, gc_ok_, gc_exn, gcM_same, asB_bl, selB_t, selB_f, selE_t, selE_f, rdV_some, stT_some, e_var, e_con, e_glo, e_nop, t_bin, t_neg, t_not, t_cmp, t_cmp2, cmp2T_t, cmp2T_f, t_and, t_or, t_if, t_idx, t_tup, t_lst, t_call, t_blt, t_mth, mthT_t, es_nil, ts_cons, b_nil, tb_cons, ts_asg, ts_expr, ts_if, ts_ret, s_rais, seqT_nx, seqT_rt, seqT_exn, seqT_bk, seqT_ct, bindT_ok, bindT_exn, outT_ok, outT_exn, tstT_ok, tstT_exn, asBT_bl, c_eqI, c_neI, c_ltI, c_leI, c_gtI, c_geI, o_addI, o_subI, n_I, abs_N, ix_tup, lift_some, at0, at1, at2, at3, asT_var, asT_tup, asTs_nil, asTs_cons, ctl_call, List.getElem?_cons_zero, List.getElem?_cons_succ, List.set_cons_zero, List.set_cons_succ, List.length_cons, List.length_nil, List.map_cons, List.map_nil, List.cons_append, List.nil_append, List.replicate_succ, List.replicate_zero, Nat.reduceAdd, Nat.reduceSub, Nat.reduceLT, Nat.reduceLeDiff, sz, Option.bind_some, Option.bind_none, Option.map_some, Bool.false_eq_true, if_true, if_false, reduceIte, Nat.zero_add, startE, Bool.not_true, Bool.not_false, decide_true, decide_false, h0, o_modI h0]
  obtain ⟨a', e1, e2⟩ := loop (P.ctl (runF P n) (runF P (n - 2)) n) (2 ^ 4096) a b hb
  have e3 : evalS (P.ctl (runF P n) (runF P (n - 2)) n) (.whl (.cmp .NotEq (.var 1) (.con (.int 0))) [(.asg (.tup [(.var 0), (.var 1)]) (.tup [(.var 1), (.bin .Mod (.var 0) (.var 1))]))]) [some (.int a), some (.int b)] m = .nx [some (.int a'), some (.int 0)] m := by
    rw [s_whl]
    have e4 : (P.ctl (runF P n) (runF P (n - 2)) n).turns = 2 ^ 4096 := hP.tn
    rw [e4]
    exact e2
  simp only [fin_rt, fin_nx, fin_exn, seq_nx, seq_rt, seq_exn, seq_bk, seq_ct, bind_ok, bind_exn, out_ok, out_exn, tst_ok, tst_exn, gc_ok_, gc_exn, gcM_same, asB_bl, selB_t, selB_f, selE_t, selE_f, rdV_some, stT_some, e_var, e_con, e_glo, e_nop, t_bin, t_neg, t_not, t_cmp, t_cmp2, cmp2T_t, cmp2T_f, t_and, t_or, t_if, t_idx, t_tup, t_lst, t_call, t_blt, t_mth, mthT_t, es_nil, ts_cons, b_nil, tb_cons, ts_asg, ts_expr, ts_if, ts_ret, s_rais, seqT_nx, seqT_rt, seqT_exn, seqT_bk, seqT_ct, bindT_ok, bindT_exn, outT_ok, outT_exn, tstT_ok, tstT_exn, asBT_bl, c_eqI, c_neI, c_ltI, c_leI, c_gtI, c_geI, o_addI, o_subI, n_I, abs_N, ix_tup, lift_some, at0, at1, at2, at3, asT_var, asT_tup, asTs_nil, asTs_cons, ctl_call, List.getElem?_cons_zero, List.getElem?_cons_succ, List.set_cons_zero, List.set_cons_succ, List.length_cons, List.length_nil, List.map_cons, List.map_nil, List.cons_append, List.nil_append, List.replicate_succ, List.replicate_zero, Nat.reduceAdd, Nat.reduceSub, Nat.reduceLT, Nat.reduceLeDiff, sz, Option.bind_some, Option.bind_none, Option.map_some, Bool.false_eq_true, if_true, if_false, reduceIte, Nat.zero_add, startE, Bool.not_true, Bool.not_false, decide_true, decide_false, irShared, e3, e1]
theorem made_ok (hP : PartsOk P iS iM) {t b : Int} (hb : b ≠ 0) (h2 : b.natAbs < 2 ^ 4096) : runF P (n + 2) iM [.int t, .int b] m = .ok (encQ (Rat.divInt t b)) m := by
  rw [runF_at hP.md rfl]
  have h3 : (-b).natAbs < 2 ^ 4096 := by rwa [Int.natAbs_neg]
  have g0 : Int.gcd t b ≠ 0 := fun z => hb (Int.gcd_eq_zero_iff.mp z).2
  have gl : Int.gcd t b < 2 ^ 4096 := Nat.lt_of_le_of_lt (Int.gcd_le_natAbs_right t hb) h2
  have gp : (0 : Int) ≤ (Int.gcd t b : Int) := Int.natCast_nonneg _
  have gD : ∀ x : Int, DivG x (Int.gcd t b : Int) := fun x => divG_of (by omega) (by
    rw [Int.natAbs_natCast]
    exact Nat.lt_of_lt_of_le gl (Nat.pow_le_pow_right (by decide) (by decide)))
  have fin : ∀ s : Int, s = b.sign → (Res.ok (D.tup [.int ((s * t).fdiv (Int.gcd t b)), .int ((s * b).fdiv (Int.gcd t b))]) m : Res D) = .ok (encQ (Rat.divInt t b)) m := fun s hs => by
    unfold encQ
    rw [Rat.num_divInt, Rat.den_divInt, if_neg hb, Int.fdiv_eq_ediv_of_nonneg _ gp, Int.fdiv_eq_ediv_of_nonneg _ gp, hs, Int.gcd_comm b t]
    congr 5
    rw [Int.natCast_ediv, Int.sign_mul_self]
  by_cases h1 : b < 0
  · have e : b.sign = -1 := Int.sign_eq_neg_one_of_neg h1
    have gn : Int.gcd (-t) (-b) = Int.gcd t b := by rw [Int.neg_gcd, Int.gcd_neg]
    have f := fin (-1) e.symm
    rw [Int.neg_one_mul, Int.neg_one_mul] at f
    simp only [fin_rt, fin_nx, fin_exn, seq_nx, seq_rt, seq_exn, seq_bk, seq_ct, bind_ok, bind_exn, out_ok, out_exn, tst_ok, tst_exn, gc_ok_, gc_exn, gcM_same, asB_bl, selB_t, selB_f, selE_t, selE_f, rdV_some, stT_some, e_var, e_con, e_glo, e_nop, t_bin, t_neg, t_not, t_cmp, t_cmp2, cmp2T_t, cmp2T_f, t_and, t_or, t_if, t_idx, t_tup, t_lst, t_call, t_blt, t_mth, mthT_t, es_nil, ts_cons, b_nil, tb_cons, ts_asg, ts_expr, ts_if, ts_ret, s_rais, seqT_nx, seqT_rt, seqT_exn, seqT_bk, seqT_ct, bindT_ok, bindT_exn, outT_ok, outT_exn, tstT_ok, tstT_exn, asBT_bl, c_eqI, c_neI, c_ltI, c_leI, c_gtI, c_geI, o_addI, o_subI, n_I, abs_N, ix_tup, lift_some, at0, at1, at2, at3, asT_var, asT_tup, asTs_nil, asTs_cons, ctl_call, List.getElem?_cons_zero, List.getElem?_cons_succ, List.set_cons_zero, List.set_cons_succ, List.length_cons, List.length_nil, List.map_cons, List.map_nil, List.cons_append, List.nil_append, List.replicate_succ, List.replicate_zero, Nat.reduceAdd, Nat.reduceSub, Nat.reduceLT, Nat.reduceLeDiff, sz, Option.bind_some, Option.bind_none, Option.map_some, Bool.false_eq_true, if_true, if_false, reduceIte, Nat.zero_add, startE, Bool.not_true, Bool.not_false, decide_true, decide_false, irMade, hb, h1, shared_ok hP h3, gn, o_divI (gD _)]
    exact f
  · have e : b.sign = 1 := Int.sign_eq_one_of_pos (by omega)
    have f := fin 1 e.symm
    rw [Int.one_mul, Int.one_mul] at f
    simp only [fin_rt, fin_nx, fin_exn, seq_nx, seq_rt, seq_exn, seq_bk, seq_ct, bind_ok, bind_exn, out_ok, out_exn, tst_ok, tst_exn, gc_ok_, gc_exn, gcM_same, asB_bl, selB_t, selB_f, selE_t, selE_f, rdV_some, stT_some, e_var, e_con, e_glo, e_nop, t_bin, t_neg, t_not, t_cmp, t_cmp2, cmp2T_t, cmp2T_f, t_and, t_or, t_if, t_idx, t_tup, t_lst, t_call, t_blt, t_mth, mthT_t, es_nil, ts_cons, b_nil, tb_cons, ts_asg, ts_expr, ts_if, ts_ret, s_rais, seqT_nx, seqT_rt, seqT_exn, seqT_bk, seqT_ct, bindT_ok, bindT_exn, outT_ok, outT_exn, tstT_ok, tstT_exn, asBT_bl, c_eqI, c_neI, c_ltI, c_leI, c_gtI, c_geI, o_addI, o_subI, n_I, abs_N, ix_tup, lift_some, at0, at1, at2, at3, asT_var, asT_tup, asTs_nil, asTs_cons, ctl_call, List.getElem?_cons_zero, List.getElem?_cons_succ, List.set_cons_zero, List.set_cons_succ, List.length_cons, List.length_nil, List.map_cons, List.map_nil, List.cons_append, List.nil_append, List.replicate_succ, List.replicate_zero, Nat.reduceAdd, Nat.reduceSub, Nat.reduceLT, Nat.reduceLeDiff, sz, Option.bind_some, Option.bind_none, Option.map_some, Bool.false_eq_true, if_true, if_false, reduceIte, Nat.zero_add, startE, Bool.not_true, Bool.not_false, decide_true, decide_false, irMade, hb, h1, shared_ok hP h2, o_divI (gD _)]
    exact f
theorem made_exn (hP : PartsOk P iS iM) {t : Int} : runF P (n + 2) iM [.int t, .int 0] m = .exn "BadNumber" none m := by
  rw [runF_at hP.md rfl]
  simp only [fin_rt, fin_nx, fin_exn, seq_nx, seq_rt, seq_exn, seq_bk, seq_ct, bind_ok, bind_exn, out_ok, out_exn, tst_ok, tst_exn, gc_ok_, gc_exn, gcM_same, asB_bl, selB_t, selB_f, selE_t, selE_f, rdV_some, stT_some, e_var, e_con, e_glo, e_nop, t_bin, t_neg, t_not, t_cmp, t_cmp2, cmp2T_t, cmp2T_f, t_and, t_or, t_if, t_idx, t_tup, t_lst, t_call, t_blt, t_mth, mthT_t, es_nil, ts_cons, b_nil, tb_cons, ts_asg, ts_expr, ts_if, ts_ret, s_rais, seqT_nx, seqT_rt, seqT_exn, seqT_bk, seqT_ct, bindT_ok, bindT_exn, outT_ok, outT_exn, tstT_ok, tstT_exn, asBT_bl, c_eqI, c_neI, c_ltI, c_leI, c_gtI, c_geI, o_addI, o_subI, n_I, abs_N, ix_tup, lift_some, at0, at1, at2, at3, asT_var, asT_tup, asTs_nil, asTs_cons, ctl_call, List.getElem?_cons_zero, List.getElem?_cons_succ, List.set_cons_zero, List.set_cons_succ, List.length_cons, List.length_nil, List.map_cons, List.map_nil, List.cons_append, List.nil_append, List.replicate_succ, List.replicate_zero, Nat.reduceAdd, Nat.reduceSub, Nat.reduceLT, Nat.reduceLeDiff, sz, Option.bind_some, Option.bind_none, Option.map_some, Bool.false_eq_true, if_true, if_false, reduceIte, Nat.zero_add, startE, Bool.not_true, Bool.not_false, decide_true, decide_false, irMade]
theorem Sz.num {q : Rat} (h : Sz q) : q.num.natAbs < 2 ^ 2000 := h.1
theorem Sz.den {q : Rat} (h : Sz q) : (q.den : Int).natAbs < 2 ^ 2000 := by rw [Int.natAbs_natCast]; exact h.2
theorem mul_lt {a b : Int} (ha : a.natAbs < 2 ^ 2000) (hb : b.natAbs < 2 ^ 2000) : (a * b).natAbs < 2 ^ 4096 := by
  rw [Int.natAbs_mul]
  have : a.natAbs * b.natAbs < 2 ^ 2000 * 2 ^ 2000 := Nat.mul_lt_mul'' ha hb
  refine Nat.lt_trans this ?_
  decide +kernel
theorem mg {a b : Int} (ha : a.natAbs < 2 ^ 2000) (hb : b.natAbs < 2 ^ 2000) : MulG a b := mulG_of ha hb (by decide)
theorem enc_0 {q : Rat} : atI [D.int q.num, D.int q.den] 0 = some (.int q.num) := by rw [at0] <;> rfl
theorem enc_1 {q : Rat} : atI [D.int q.num, D.int q.den] 1 = some (.int q.den) := by rw [at1] <;> rfl
theorem den_ne (q : Rat) : (q.den : Int) ≠ 0 := by
  have := q.den_nz
  omega
theorem add_ok (hP : PartsOk P iS iM) {f : Nat} (hf : P.fns[f]? = some ⟨2, 2, irAdd iM⟩) {p q : Rat} (hp : Sz p) (hq : Sz q) : runF P (n + 3) f [encQ p, encQ q] m = .ok (encQ (p + q)) m := by
  rw [runF_at hf rfl]
  have hb : (p.den : Int) * q.den ≠ 0 := Int.mul_ne_zero (den_ne p) (den_ne q)
  have e : p + q = Rat.divInt (p.num * q.den + q.num * p.den) ((p.den : Int) * q.den) := by
    rw [Rat.add_def', ← Rat.divInt_ofNat]
    simp
  rw [e]
  simp only [fin_rt, fin_nx, fin_exn, seq_nx, seq_rt, seq_exn, seq_bk, seq_ct, bind_ok, bind_exn, out_ok, out_exn, tst_ok, tst_exn, gc_ok_, gc_exn, gcM_same, asB_bl, selB_t, selB_f, selE_t, selE_f, rdV_some, stT_some, e_var, e_con, e_glo, e_nop, t_bin, t_neg, t_not, t_cmp, t_cmp2, cmp2T_t, cmp2T_f, t_and, t_or, t_if, t_idx, t_tup, t_lst, t_call, t_blt, t_mth, mthT_t, es_nil, ts_cons, b_nil, tb_cons, ts_asg, ts_expr, ts_if, ts_ret, s_rais, seqT_nx, seqT_rt, seqT_exn, seqT_bk, seqT_ct, bindT_ok, bindT_exn, outT_ok, outT_exn, tstT_ok, tstT_exn, asBT_bl, c_eqI, c_neI, c_ltI, c_leI, c_gtI, c_geI, o_addI, o_subI, n_I, abs_N, ix_tup, lift_some, at0, at1, at2, at3, asT_var, asT_tup, asTs_nil, asTs_cons, ctl_call, List.getElem?_cons_zero, List.getElem?_cons_succ, List.set_cons_zero, List.set_cons_succ, List.length_cons, List.length_nil, List.map_cons, List.map_nil, List.cons_append, List.nil_append, List.replicate_succ, List.replicate_zero, Nat.reduceAdd, Nat.reduceSub, Nat.reduceLT, Nat.reduceLeDiff, sz, Option.bind_some, Option.bind_none, Option.map_some, Bool.false_eq_true, if_true, if_false, reduceIte, Nat.zero_add, startE, Bool.not_true, Bool.not_false, decide_true, decide_false, irAdd, encQ, o_mulI (mg hp.num hq.den), o_mulI (mg hq.num hp.den), o_mulI (mg hp.den hq.den), made_ok hP hb (mul_lt hp.den hq.den)]
theorem less_ok (hP : PartsOk P iS iM) {f : Nat} (hf : P.fns[f]? = some ⟨2, 2, irLess iM⟩) {p q : Rat} (hp : Sz p) (hq : Sz q) : runF P (n + 3) f [encQ p, encQ q] m = .ok (encQ (p - q)) m := by
  rw [runF_at hf rfl]
  have hb : (p.den : Int) * q.den ≠ 0 := Int.mul_ne_zero (den_ne p) (den_ne q)
  have e : p - q = Rat.divInt (p.num * q.den - q.num * p.den) ((p.den : Int) * q.den) := by
    rw [Rat.sub_def', ← Rat.divInt_ofNat]
    simp
  rw [e]
  simp only [fin_rt, fin_nx, fin_exn, seq_nx, seq_rt, seq_exn, seq_bk, seq_ct, bind_ok, bind_exn, out_ok, out_exn, tst_ok, tst_exn, gc_ok_, gc_exn, gcM_same, asB_bl, selB_t, selB_f, selE_t, selE_f, rdV_some, stT_some, e_var, e_con, e_glo, e_nop, t_bin, t_neg, t_not, t_cmp, t_cmp2, cmp2T_t, cmp2T_f, t_and, t_or, t_if, t_idx, t_tup, t_lst, t_call, t_blt, t_mth, mthT_t, es_nil, ts_cons, b_nil, tb_cons, ts_asg, ts_expr, ts_if, ts_ret, s_rais, seqT_nx, seqT_rt, seqT_exn, seqT_bk, seqT_ct, bindT_ok, bindT_exn, outT_ok, outT_exn, tstT_ok, tstT_exn, asBT_bl, c_eqI, c_neI, c_ltI, c_leI, c_gtI, c_geI, o_addI, o_subI, n_I, abs_N, ix_tup, lift_some, at0, at1, at2, at3, asT_var, asT_tup, asTs_nil, asTs_cons, ctl_call, List.getElem?_cons_zero, List.getElem?_cons_succ, List.set_cons_zero, List.set_cons_succ, List.length_cons, List.length_nil, List.map_cons, List.map_nil, List.cons_append, List.nil_append, List.replicate_succ, List.replicate_zero, Nat.reduceAdd, Nat.reduceSub, Nat.reduceLT, Nat.reduceLeDiff, sz, Option.bind_some, Option.bind_none, Option.map_some, Bool.false_eq_true, if_true, if_false, reduceIte, Nat.zero_add, startE, Bool.not_true, Bool.not_false, decide_true, decide_false, irLess, encQ, o_mulI (mg hp.num hq.den), o_mulI (mg hq.num hp.den), o_mulI (mg hp.den hq.den), made_ok hP hb (mul_lt hp.den hq.den)]
theorem times_ok (hP : PartsOk P iS iM) {f : Nat} (hf : P.fns[f]? = some ⟨2, 2, irTimes iM⟩) {p q : Rat} (hp : Sz p) (hq : Sz q) : runF P (n + 3) f [encQ p, encQ q] m = .ok (encQ (p * q)) m := by
  rw [runF_at hf rfl]
  have hb : (p.den : Int) * q.den ≠ 0 := Int.mul_ne_zero (den_ne p) (den_ne q)
  have e : p * q = Rat.divInt (p.num * q.num) ((p.den : Int) * q.den) := by
    rw [Rat.mul_def', ← Rat.divInt_ofNat]
    simp
  rw [e]
  simp only [fin_rt, fin_nx, fin_exn, seq_nx, seq_rt, seq_exn, seq_bk, seq_ct, bind_ok, bind_exn, out_ok, out_exn, tst_ok, tst_exn, gc_ok_, gc_exn, gcM_same, asB_bl, selB_t, selB_f, selE_t, selE_f, rdV_some, stT_some, e_var, e_con, e_glo, e_nop, t_bin, t_neg, t_not, t_cmp, t_cmp2, cmp2T_t, cmp2T_f, t_and, t_or, t_if, t_idx, t_tup, t_lst, t_call, t_blt, t_mth, mthT_t, es_nil, ts_cons, b_nil, tb_cons, ts_asg, ts_expr, ts_if, ts_ret, s_rais, seqT_nx, seqT_rt, seqT_exn, seqT_bk, seqT_ct, bindT_ok, bindT_exn, outT_ok, outT_exn, tstT_ok, tstT_exn, asBT_bl, c_eqI, c_neI, c_ltI, c_leI, c_gtI, c_geI, o_addI, o_subI, n_I, abs_N, ix_tup, lift_some, at0, at1, at2, at3, asT_var, asT_tup, asTs_nil, asTs_cons, ctl_call, List.getElem?_cons_zero, List.getElem?_cons_succ, List.set_cons_zero, List.set_cons_succ, List.length_cons, List.length_nil, List.map_cons, List.map_nil, List.cons_append, List.nil_append, List.replicate_succ, List.replicate_zero, Nat.reduceAdd, Nat.reduceSub, Nat.reduceLT, Nat.reduceLeDiff, sz, Option.bind_some, Option.bind_none, Option.map_some, Bool.false_eq_true, if_true, if_false, reduceIte, Nat.zero_add, startE, Bool.not_true, Bool.not_false, decide_true, decide_false, irTimes, encQ, o_mulI (mg hp.num hq.num), o_mulI (mg hp.den hq.den), made_ok hP hb (mul_lt hp.den hq.den)]
theorem over_ok (hP : PartsOk P iS iM) {f : Nat} (hf : P.fns[f]? = some ⟨2, 2, irOver iM⟩) {p q : Rat} (hp : Sz p) (hq : Sz q) (h0 : q ≠ 0) : runF P (n + 3) f [encQ p, encQ q] m = .ok (encQ (p / q)) m := by
  rw [runF_at hf rfl]
  have hn : q.num ≠ 0 := fun z => h0 (Rat.num_eq_zero.mp z)
  have hb : (p.den : Int) * q.num ≠ 0 := Int.mul_ne_zero (den_ne p) hn
  have e : p / q = Rat.divInt (p.num * q.den) ((p.den : Int) * q.num) := by
    have h1 : p = Rat.divInt p.num p.den := (Rat.num_divInt_den p).symm
    have h2 : q = Rat.divInt q.num q.den := (Rat.num_divInt_den q).symm
    conv => lhs; rw [h1, h2]
    rw [Rat.div_def, Rat.inv_divInt, Rat.divInt_mul_divInt]
  rw [e]
  simp only [fin_rt, fin_nx, fin_exn, seq_nx, seq_rt, seq_exn, seq_bk, seq_ct, bind_ok, bind_exn, out_ok, out_exn, tst_ok, tst_exn, gc_ok_, gc_exn, gcM_same, asB_bl, selB_t, selB_f, selE_t, selE_f, rdV_some, stT_some, e_var, e_con, e_glo, e_nop, t_bin, t_neg, t_not, t_cmp, t_cmp2, cmp2T_t, cmp2T_f, t_and, t_or, t_if, t_idx, t_tup, t_lst, t_call, t_blt, t_mth, mthT_t, es_nil, ts_cons, b_nil, tb_cons, ts_asg, ts_expr, ts_if, ts_ret, s_rais, seqT_nx, seqT_rt, seqT_exn, seqT_bk, seqT_ct, bindT_ok, bindT_exn, outT_ok, outT_exn, tstT_ok, tstT_exn, asBT_bl, c_eqI, c_neI, c_ltI, c_leI, c_gtI, c_geI, o_addI, o_subI, n_I, abs_N, ix_tup, lift_some, at0, at1, at2, at3, asT_var, asT_tup, asTs_nil, asTs_cons, ctl_call, List.getElem?_cons_zero, List.getElem?_cons_succ, List.set_cons_zero, List.set_cons_succ, List.length_cons, List.length_nil, List.map_cons, List.map_nil, List.cons_append, List.nil_append, List.replicate_succ, List.replicate_zero, Nat.reduceAdd, Nat.reduceSub, Nat.reduceLT, Nat.reduceLeDiff, sz, Option.bind_some, Option.bind_none, Option.map_some, Bool.false_eq_true, if_true, if_false, reduceIte, Nat.zero_add, startE, Bool.not_true, Bool.not_false, decide_true, decide_false, irOver, encQ, o_mulI (mg hp.num hq.den), o_mulI (mg hp.den hq.num), made_ok hP hb (mul_lt hp.den hq.num)]
end
end Dat

/-! Dat21 -/
set_option linter.all false
set_option maxRecDepth 100000
set_option maxHeartbeats 4000000
/-! Dat21: the law's dice. -/
namespace Dat
open PySem L2
def irDice : List IS := [(.ifS (.cmp2 .Lt .Lt (.bin .Sub (.con (.int 0)) (.con (.int 10))) (.var 0) (.con (.int 10))) [(.ret (.lst [(.blt .abs [(.var 0)]), (.con (.int 0)), (.con (.int 2))]))] []), (.ret (.lst [(.var 0), (.bin .Add (.con (.int 1)) (.bin .Mod (.blt .int [(.var 0)]) (.con (.int 1009)))), (.blt .int [(.cmp .GtE (.var 0) (.bin .Pow (.con (.int 10)) (.con (.int 18))))])]))]
def irRollK (k1 k2 k3 K k7 : Int) : List IS := [(.ifS (.orE (.cmp .Eq (.idx (.var 0) (.con (.int 2))) (.con (.int 2))) (.andE (.cmp .Eq (.idx (.var 0) (.con (.int 2))) (.con (.int 1))) (.cmp .Gt (.idx (.var 0) (.con (.int 0))) (.con (.int 0))))) [(.asg (.var 2) (.bin .Mod (.blt .int [(.idx (.var 0) (.con (.int 0)))]) (.var 1))), (.setI (.var 0) (.con (.int 0)) (.bin .FloorDiv (.idx (.var 0) (.con (.int 0))) (.var 1))), (.ret (.var 2))] []), (.setI (.var 0) (.con (.int 2)) (.con (.int 0))), (.setI (.var 0) (.con (.int 0)) (.bin .Mod (.blt .int [(.bin .Add (.bin .Add (.bin .Mult (.idx (.var 0) (.con (.int 0))) (.con (.int k1))) (.bin .Mult (.idx (.var 0) (.con (.int 1))) (.con (.int k2)))) (.con (.int k3)))]) (.con (.int K)))), (.setI (.var 0) (.con (.int 1)) (.bin .Add (.idx (.var 0) (.con (.int 1))) (.con (.int 1)))), (.ret (.bin .Mod (.blt .int [(.bin .Add (.bin .FloorDiv (.idx (.var 0) (.con (.int 0))) (.con (.int k7))) (.idx (.var 0) (.con (.int 0))))]) (.var 1)))]
abbrev irRoll : List IS := irRollK 48271 69621 11 2147483647 7
def irRounds (iD : Nat) : List IS := [(.asg (.var 2) (.slc false true (.var 0) .nop (.var 1))), (.ifS (.cmp .Eq (.var 2) (.lst [])) [(.asg (.var 2) (.lst [(.con (.int 0))]))] []), (.ret (.comp (.var 3) (.seq (.var 2)) (.con (.bl true)) (.call iD [(.var 3)]) [3]))]
/-- what holds of a dice's numbers, t the rolls so far -/
def DOk (E t : Nat) (a b : Int) : Prop := a.natAbs < 2 ^ E ∧ b.natAbs ≤ 2000 + t
theorem divG_64 {i j : Int} (h0 : j ≠ 0) (hj : j.natAbs < 2 ^ 64) : DivG i j := divG_of h0 (Nat.lt_of_lt_of_le hj (Nat.pow_le_pow_right (by decide) (by decide)))
section
variable {C : Ctl} {env : EnvD} {m : Mem}
theorem s_setI {o i e : IE} : evalS C (.setI o i e) env m = ((evalE e C env m).bind fun v m1 => (evalE o C env m1).bind fun a m2 => (evalE i C env m2).bind fun k m3 => (setD a k v m3).bind fun _ m4 => (Res.ok .non m4).gc m.length).out env fun _ m4 => .nx env m4 := by rw [evalS]
theorem ts_setI {o i e : IE} : evalS C (.setI o i e) env m = ((evalE e C env m).bindT (fun v m1 => (evalE o C env m1).bindT (fun a m2 => (evalE i C env m2).bindT (fun k m3 => (setD a k v m3).bindT (fun _ m4 => (Res.ok .non m4).gc m.length) ⟨⟩) ⟨⟩) ⟨⟩) ⟨⟩).outT env (fun _ m4 => .nx env m4) ⟨⟩ := s_setI
theorem gcM_set {a : D} {i : Nat} {c : Cell} : gcM m.length a (m.set i c) = m.set i c := by
  have e : m.length = (m.set i c).length := by simp
  rw [e, gcM_same]
theorem ix_ref {i : Nat} {l : List D} {k : Int} (h : m[i]? = some (.lst l)) : idxD (.ref i) (.int k) m = liftO m (atI l k) := by
  simp only [idxD, seqD, h]
theorem set_ref {i : Nat} {l : List D} {k : Int} {v : D} {j : Nat} (h : m[i]? = some (.lst l)) (hj : ixN l.length k = some j) : setD (.ref i) (.int k) v m = .ok () (m.set i (.lst (l.set j v))) := by
  simp only [setD, h, hj]
theorem int_I {i : Int} : bltD .int [.int i] m = .ok (.int i) m := rfl
theorem get_set {i : Nat} {c c' : Cell} (h : m[i]? = some c) : (m.set i c')[i]? = some c' := List.getElem?_set_self (List.getElem?_eq_some_iff.mp h).1
end
theorem fdiv_small {a k : Int} (hk : 0 < k) : (a.fdiv k).natAbs ≤ a.natAbs := by
  rw [Int.fdiv_eq_ediv_of_nonneg _ (by omega)]
  have h1 := Int.mul_ediv_add_emod a k
  have h2 := Int.emod_nonneg a (by omega : k ≠ 0)
  have h3 := Int.emod_lt_of_pos a hk
  generalize hq : a / k = q at *
  by_cases h : 0 ≤ q
  · have : q ≤ k * q := by
      have := Int.mul_le_mul_of_nonneg_right (show (1 : Int) ≤ k by omega) h
      omega
    omega
  · have : k * (q + 1) ≤ q + 1 := by
      have := Int.mul_le_mul_of_nonneg_right (show (1 : Int) ≤ k by omega) (show 0 ≤ -(q + 1) by omega)
      rw [Int.mul_neg, Int.mul_neg] at this
      omega
    rw [Int.mul_add, Int.mul_one] at this
    omega
section
variable {P : Prog} {n : Nat} {m : Mem}
theorem roll_okK {f : Nat} {k1 k2 k3 K k7 : Int} (q1 : k1.natAbs < 2 ^ 16) (q2 : k2.natAbs < 2 ^ 17) (q3 : 0 < K) (q4 : K < 2 ^ 31) (q7 : k7 ≠ 0) (q8 : k7.natAbs < 2 ^ 64) (hf : P.fns[f]? = some ⟨2, 3, irRollK k1 k2 k3 K k7⟩) {E i t : Nat} (hE : 31 ≤ E) (hE2 : E ≤ 134217700) {a b c many : Int} (hm : m[i]? = some (.lst [.int a, .int b, .int c])) (hd : DOk E t a b) (ht : t < 1000000000) (h0 : 0 < many) (h1 : many.natAbs < 2 ^ 64) :
    ∃ r a' b' c', 0 ≤ r ∧ r < many ∧ DOk E (t + 1) a' b' ∧ runF P (n + 1) f [.ref i, .int many] m = .ok (.int r) (m.set i (.lst [.int a', .int b', .int c'])) := by
  have hn : many ≠ 0 := by omega
  have x0 : ixN 3 0 = some 0 := rfl
  have x1 : ixN 3 1 = some 1 := rfl
  have x2 : ixN 3 2 = some 2 := rfl
  by_cases hc : c = 2 ∨ (c = 1 ∧ 0 < a)
  · refine ⟨a.fmod many, a.fdiv many, b, c, Int.fmod_nonneg_of_pos _ h0, Int.fmod_lt_of_pos _ h0, ⟨Nat.lt_of_le_of_lt (fdiv_small h0) hd.1, by have := hd.2; omega⟩, ?_⟩
    rw [runF_at hf rfl]
    rcases hc with rfl | ⟨rfl, ha⟩
    · simp only [fin_rt, fin_nx, fin_exn, seq_nx, seq_rt, seq_exn, seq_bk, seq_ct, bind_ok, bind_exn, out_ok, out_exn, tst_ok, tst_exn, gc_ok_, gc_exn, gcM_same, asB_bl, selB_t, selB_f, selE_t, selE_f, rdV_some, stT_some, e_var, e_con, e_glo, e_nop, t_bin, t_neg, t_not, t_cmp, t_cmp2, cmp2T_t, cmp2T_f, t_and, t_or, t_if, t_idx, t_tup, t_lst, t_call, t_blt, t_mth, mthT_t, es_nil, ts_cons, b_nil, tb_cons, ts_asg, ts_expr, ts_if, ts_ret, s_rais, seqT_nx, seqT_rt, seqT_exn, seqT_bk, seqT_ct, bindT_ok, bindT_exn, outT_ok, outT_exn, tstT_ok, tstT_exn, asBT_bl, c_eqI, c_neI, c_ltI, c_leI, c_gtI, c_geI, o_addI, o_subI, n_I, abs_N, ix_tup, lift_some, at0, at1, at2, at3, asT_var, asT_tup, asTs_nil, asTs_cons, ctl_call, List.getElem?_cons_zero, List.getElem?_cons_succ, List.set_cons_zero, List.set_cons_succ, List.length_cons, List.length_nil, List.map_cons, List.map_nil, List.cons_append, List.nil_append, List.replicate_succ, List.replicate_zero, Nat.reduceAdd, Nat.reduceSub, Nat.reduceLT, Nat.reduceLeDiff, sz, Option.bind_some, Option.bind_none, Option.map_some, Bool.false_eq_true, if_true, if_false, reduceIte, Nat.zero_add, startE, Bool.not_true, Bool.not_false, decide_true, decide_false, irRollK, ix_ref hm, int_I, o_modI hn, ts_setI, o_divI (divG_64 hn h1), set_ref hm x0, gcM_set]
    · simp only [fin_rt, fin_nx, fin_exn, seq_nx, seq_rt, seq_exn, seq_bk, seq_ct, bind_ok, bind_exn, out_ok, out_exn, tst_ok, tst_exn, gc_ok_, gc_exn, gcM_same, asB_bl, selB_t, selB_f, selE_t, selE_f, rdV_some, stT_some, e_var, e_con, e_glo, e_nop, t_bin, t_neg, t_not, t_cmp, t_cmp2, cmp2T_t, cmp2T_f, t_and, t_or, t_if, t_idx, t_tup, t_lst, t_call, t_blt, t_mth, mthT_t, es_nil, ts_cons, b_nil, tb_cons, ts_asg, ts_expr, ts_if, ts_ret, s_rais, seqT_nx, seqT_rt, seqT_exn, seqT_bk, seqT_ct, bindT_ok, bindT_exn, outT_ok, outT_exn, tstT_ok, tstT_exn, asBT_bl, c_eqI, c_neI, c_ltI, c_leI, c_gtI, c_geI, o_addI, o_subI, n_I, abs_N, ix_tup, lift_some, at0, at1, at2, at3, asT_var, asT_tup, asTs_nil, asTs_cons, ctl_call, List.getElem?_cons_zero, List.getElem?_cons_succ, List.set_cons_zero, List.set_cons_succ, List.length_cons, List.length_nil, List.map_cons, List.map_nil, List.cons_append, List.nil_append, List.replicate_succ, List.replicate_zero, Nat.reduceAdd, Nat.reduceSub, Nat.reduceLT, Nat.reduceLeDiff, sz, Option.bind_some, Option.bind_none, Option.map_some, Bool.false_eq_true, if_true, if_false, reduceIte, Nat.zero_add, startE, Bool.not_true, Bool.not_false, decide_true, decide_false, irRollK, ix_ref hm, int_I, o_modI hn, ts_setI, o_divI (divG_64 hn h1), set_ref hm x0, gcM_set, ha, show ¬ ((1 : Int) = 2) by decide]
  · have hc2 : c ≠ 2 := fun z => hc (.inl z)
    have hx : ∀ (C : Ctl), selE C (decide (c = 1)) (.cmp .Gt (.idx (.var 0) (.con (.int 0))) (.con (.int 0))) (.con (.bl false)) [some (.ref i), some (.int many), none] m = .ok (.bl false) m := fun C => by
      by_cases h3 : c = 1
      · have h4 : ¬ 0 < a := fun z => hc (.inr ⟨h3, z⟩)
        simp only [fin_rt, fin_nx, fin_exn, seq_nx, seq_rt, seq_exn, seq_bk, seq_ct, bind_ok, bind_exn, out_ok, out_exn, tst_ok, tst_exn, gc_ok_, gc_exn, gcM_same, asB_bl, selB_t, selB_f, selE_t, selE_f, rdV_some, stT_some, e_var, e_con, e_glo, e_nop, t_bin, t_neg, t_not, t_cmp, t_cmp2, cmp2T_t, cmp2T_f, t_and, t_or, t_if, t_idx, t_tup, t_lst, t_call, t_blt, t_mth, mthT_t, es_nil, ts_cons, b_nil, tb_cons, ts_asg, ts_expr, ts_if, ts_ret, s_rais, seqT_nx, seqT_rt, seqT_exn, seqT_bk, seqT_ct, bindT_ok, bindT_exn, outT_ok, outT_exn, tstT_ok, tstT_exn, asBT_bl, c_eqI, c_neI, c_ltI, c_leI, c_gtI, c_geI, o_addI, o_subI, n_I, abs_N, ix_tup, lift_some, at0, at1, at2, at3, asT_var, asT_tup, asTs_nil, asTs_cons, ctl_call, List.getElem?_cons_zero, List.getElem?_cons_succ, List.set_cons_zero, List.set_cons_succ, List.length_cons, List.length_nil, List.map_cons, List.map_nil, List.cons_append, List.nil_append, List.replicate_succ, List.replicate_zero, Nat.reduceAdd, Nat.reduceSub, Nat.reduceLT, Nat.reduceLeDiff, sz, Option.bind_some, Option.bind_none, Option.map_some, Bool.false_eq_true, if_true, if_false, reduceIte, Nat.zero_add, startE, Bool.not_true, Bool.not_false, decide_true, decide_false, h3, ix_ref hm, h4]
      · simp only [fin_rt, fin_nx, fin_exn, seq_nx, seq_rt, seq_exn, seq_bk, seq_ct, bind_ok, bind_exn, out_ok, out_exn, tst_ok, tst_exn, gc_ok_, gc_exn, gcM_same, asB_bl, selB_t, selB_f, selE_t, selE_f, rdV_some, stT_some, e_var, e_con, e_glo, e_nop, t_bin, t_neg, t_not, t_cmp, t_cmp2, cmp2T_t, cmp2T_f, t_and, t_or, t_if, t_idx, t_tup, t_lst, t_call, t_blt, t_mth, mthT_t, es_nil, ts_cons, b_nil, tb_cons, ts_asg, ts_expr, ts_if, ts_ret, s_rais, seqT_nx, seqT_rt, seqT_exn, seqT_bk, seqT_ct, bindT_ok, bindT_exn, outT_ok, outT_exn, tstT_ok, tstT_exn, asBT_bl, c_eqI, c_neI, c_ltI, c_leI, c_gtI, c_geI, o_addI, o_subI, n_I, abs_N, ix_tup, lift_some, at0, at1, at2, at3, asT_var, asT_tup, asTs_nil, asTs_cons, ctl_call, List.getElem?_cons_zero, List.getElem?_cons_succ, List.set_cons_zero, List.set_cons_succ, List.length_cons, List.length_nil, List.map_cons, List.map_nil, List.cons_append, List.nil_append, List.replicate_succ, List.replicate_zero, Nat.reduceAdd, Nat.reduceSub, Nat.reduceLT, Nat.reduceLeDiff, sz, Option.bind_some, Option.bind_none, Option.map_some, Bool.false_eq_true, if_true, if_false, reduceIte, Nat.zero_add, startE, Bool.not_true, Bool.not_false, decide_true, decide_false, h3]
    have p0 : K ≠ 0 := by omega
    have gA : MulG a k1 := mulG_of (q := 16) hd.1 q1 (by omega)
    have gB : MulG b k2 := mulG_of (p := 31) (q := 17) (by have := hd.2; omega) q2 (by decide)
    obtain ⟨a', ea⟩ : ∃ a', a' = (a * k1 + b * k2 + k3).fmod K := ⟨_, rfl⟩
    have j1 : 0 ≤ a' := ea ▸ Int.fmod_nonneg_of_pos _ q3
    have j2 : a' < K := ea ▸ Int.fmod_lt_of_pos _ q3
    have gs : ∀ l : List D, (m.set i (.lst l))[i]? = some (.lst l) := fun l => get_set hm
    refine ⟨(a'.fdiv k7 + a').fmod many, a', b + 1, 0, Int.fmod_nonneg_of_pos _ h0, Int.fmod_lt_of_pos _ h0, ⟨Nat.lt_of_lt_of_le (show a'.natAbs < 2 ^ 31 by omega) (Nat.pow_le_pow_right (by decide) hE), by have := hd.2; omega⟩, ?_⟩
    have gD : DivG a' k7 := divG_64 q7 q8
    rw [runF_at hf rfl]
    have ix : ∀ (l : List D) (k : Int), idxD (.ref i) (.int k) (m.set i (.lst l)) = liftO (m.set i (.lst l)) (atI l k) := fun l k => ix_ref (gs l)
    have st : ∀ (l : List D) (k : Int) (j : Nat) (v : D), ixN l.length k = some j → setD (.ref i) (.int k) v (m.set i (.lst l)) = .ok () (m.set i (.lst (l.set j v))) := fun l k j v h => by
      rw [set_ref (gs l) h, List.set_set]
    simp only [fin_rt, fin_nx, fin_exn, seq_nx, seq_rt, seq_exn, seq_bk, seq_ct, bind_ok, bind_exn, out_ok, out_exn, tst_ok, tst_exn, gc_ok_, gc_exn, gcM_same, asB_bl, selB_t, selB_f, selE_t, selE_f, rdV_some, stT_some, e_var, e_con, e_glo, e_nop, t_bin, t_neg, t_not, t_cmp, t_cmp2, cmp2T_t, cmp2T_f, t_and, t_or, t_if, t_idx, t_tup, t_lst, t_call, t_blt, t_mth, mthT_t, es_nil, ts_cons, b_nil, tb_cons, ts_asg, ts_expr, ts_if, ts_ret, s_rais, seqT_nx, seqT_rt, seqT_exn, seqT_bk, seqT_ct, bindT_ok, bindT_exn, outT_ok, outT_exn, tstT_ok, tstT_exn, asBT_bl, c_eqI, c_neI, c_ltI, c_leI, c_gtI, c_geI, o_addI, o_subI, n_I, abs_N, ix_tup, lift_some, at0, at1, at2, at3, asT_var, asT_tup, asTs_nil, asTs_cons, ctl_call, List.getElem?_cons_zero, List.getElem?_cons_succ, List.set_cons_zero, List.set_cons_succ, List.length_cons, List.length_nil, List.map_cons, List.map_nil, List.cons_append, List.nil_append, List.replicate_succ, List.replicate_zero, Nat.reduceAdd, Nat.reduceSub, Nat.reduceLT, Nat.reduceLeDiff, sz, Option.bind_some, Option.bind_none, Option.map_some, Bool.false_eq_true, if_true, if_false, reduceIte, Nat.zero_add, startE, Bool.not_true, Bool.not_false, decide_true, decide_false, irRollK, ix_ref hm, hc2, hx, ts_setI, set_ref hm x2, gcM_set, List.length_set, ix, int_I, o_mulI gA, o_mulI gB, o_modI p0, ← ea, st [.int a, .int b, .int 0] 0 0 _ x0, st [.int a', .int b, .int 0] 1 1 _ x1, o_divI gD, o_modI hn]
theorem roll_ok {f : Nat} (hf : P.fns[f]? = some ⟨2, 3, irRoll⟩) {E i t : Nat} (hE : 31 ≤ E) (hE2 : E ≤ 134217700) {a b c many : Int} (hm : m[i]? = some (.lst [.int a, .int b, .int c])) (hd : DOk E t a b) (ht : t < 1000000000) (h0 : 0 < many) (h1 : many.natAbs < 2 ^ 64) :
    ∃ r a' b' c', 0 ≤ r ∧ r < many ∧ DOk E (t + 1) a' b' ∧ runF P (n + 1) f [.ref i, .int many] m = .ok (.int r) (m.set i (.lst [.int a', .int b', .int c'])) :=
  roll_okK (by decide) (by decide) (by decide) (by decide) (by decide) (by decide) hf hE hE2 hm hd ht h0 h1
theorem gcM_new {d : List D} {l : Mem} {k : Nat} (h : m.length ≤ k) : gcM m.length (.ref k) (m ++ l) = m ++ l := by
  unfold gcM
  rw [if_neg]
  rintro ⟨h1, _⟩
  simp [D.undr] at h1
  omega
theorem o_pow {m : Mem} : binD .Pow (.int 10) (.int 18) m = .ok (.int 1000000000000000000) m := by
  have h : PowG 10 18 := by decide
  show (if PowG 10 18 then Res.ok (D.int (10 ^ (18 : Int).toNat)) m else .stuck) = _
  rw [if_pos h] <;> rfl
theorem int_B {b : Bool} {m : Mem} : bltD .int [.bl b] m = .ok (.int (if b then 1 else 0)) m := rfl
theorem dice_ok {f : Nat} (hf : P.fns[f]? = some ⟨1, 1, irDice⟩) {E : Nat} (hE : 31 ≤ E) {z : Int} (hz : z.natAbs < 2 ^ E) :
    ∃ a b c, DOk E 0 a b ∧ runF P (n + 1) f [.int z] m = .ok (.ref m.length) (m ++ [.lst [.int a, .int b, .int c]]) := by
  by_cases h : 0 - 10 < z ∧ z < 10
  · refine ⟨z.natAbs, 0, 2, ⟨by rw [Int.natAbs_natCast]; exact hz, by decide⟩, ?_⟩
    rw [runF_at hf rfl]
    simp only [fin_rt, fin_nx, fin_exn, seq_nx, seq_rt, seq_exn, seq_bk, seq_ct, bind_ok, bind_exn, out_ok, out_exn, tst_ok, tst_exn, gc_ok_, gc_exn, gcM_same, asB_bl, selB_t, selB_f, selE_t, selE_f, rdV_some, stT_some, e_var, e_con, e_glo, e_nop, t_bin, t_neg, t_not, t_cmp, t_cmp2, cmp2T_t, cmp2T_f, t_and, t_or, t_if, t_idx, t_tup, t_lst, t_call, t_blt, t_mth, mthT_t, es_nil, ts_cons, b_nil, tb_cons, ts_asg, ts_expr, ts_if, ts_ret, s_rais, seqT_nx, seqT_rt, seqT_exn, seqT_bk, seqT_ct, bindT_ok, bindT_exn, outT_ok, outT_exn, tstT_ok, tstT_exn, asBT_bl, c_eqI, c_neI, c_ltI, c_leI, c_gtI, c_geI, o_addI, o_subI, n_I, abs_N, ix_tup, lift_some, at0, at1, at2, at3, asT_var, asT_tup, asTs_nil, asTs_cons, ctl_call, List.getElem?_cons_zero, List.getElem?_cons_succ, List.set_cons_zero, List.set_cons_succ, List.length_cons, List.length_nil, List.map_cons, List.map_nil, List.cons_append, List.nil_append, List.replicate_succ, List.replicate_zero, Nat.reduceAdd, Nat.reduceSub, Nat.reduceLT, Nat.reduceLeDiff, sz, Option.bind_some, Option.bind_none, Option.map_some, Bool.false_eq_true, if_true, if_false, reduceIte, Nat.zero_add, startE, Bool.not_true, Bool.not_false, decide_true, decide_false, irDice, h.1, h.2, gcM_new (d := []) (Nat.le_refl m.length)]
  · have p : (1009 : Int) ≠ 0 := by decide
    have j1 := Int.fmod_nonneg_of_pos z (by decide : (0 : Int) < 1009)
    have j2 := Int.fmod_lt_of_pos z (by decide : (0 : Int) < 1009)
    refine ⟨z, 1 + z.fmod 1009, if decide (1000000000000000000 ≤ z) then 1 else 0, ⟨hz, by omega⟩, ?_⟩
    rw [runF_at hf rfl]
    by_cases h1 : 0 - 10 < z
    · have h2 : ¬ z < 10 := fun q => h ⟨h1, q⟩
      simp only [fin_rt, fin_nx, fin_exn, seq_nx, seq_rt, seq_exn, seq_bk, seq_ct, bind_ok, bind_exn, out_ok, out_exn, tst_ok, tst_exn, gc_ok_, gc_exn, gcM_same, asB_bl, selB_t, selB_f, selE_t, selE_f, rdV_some, stT_some, e_var, e_con, e_glo, e_nop, t_bin, t_neg, t_not, t_cmp, t_cmp2, cmp2T_t, cmp2T_f, t_and, t_or, t_if, t_idx, t_tup, t_lst, t_call, t_blt, t_mth, mthT_t, es_nil, ts_cons, b_nil, tb_cons, ts_asg, ts_expr, ts_if, ts_ret, s_rais, seqT_nx, seqT_rt, seqT_exn, seqT_bk, seqT_ct, bindT_ok, bindT_exn, outT_ok, outT_exn, tstT_ok, tstT_exn, asBT_bl, c_eqI, c_neI, c_ltI, c_leI, c_gtI, c_geI, o_addI, o_subI, n_I, abs_N, ix_tup, lift_some, at0, at1, at2, at3, asT_var, asT_tup, asTs_nil, asTs_cons, ctl_call, List.getElem?_cons_zero, List.getElem?_cons_succ, List.set_cons_zero, List.set_cons_succ, List.length_cons, List.length_nil, List.map_cons, List.map_nil, List.cons_append, List.nil_append, List.replicate_succ, List.replicate_zero, Nat.reduceAdd, Nat.reduceSub, Nat.reduceLT, Nat.reduceLeDiff, sz, Option.bind_some, Option.bind_none, Option.map_some, Bool.false_eq_true, if_true, if_false, reduceIte, Nat.zero_add, startE, Bool.not_true, Bool.not_false, decide_true, decide_false, irDice, h1, h2, int_I, o_modI p, o_pow, int_B, gcM_new (d := []) (Nat.le_refl m.length)]
    · simp only [fin_rt, fin_nx, fin_exn, seq_nx, seq_rt, seq_exn, seq_bk, seq_ct, bind_ok, bind_exn, out_ok, out_exn, tst_ok, tst_exn, gc_ok_, gc_exn, gcM_same, asB_bl, selB_t, selB_f, selE_t, selE_f, rdV_some, stT_some, e_var, e_con, e_glo, e_nop, t_bin, t_neg, t_not, t_cmp, t_cmp2, cmp2T_t, cmp2T_f, t_and, t_or, t_if, t_idx, t_tup, t_lst, t_call, t_blt, t_mth, mthT_t, es_nil, ts_cons, b_nil, tb_cons, ts_asg, ts_expr, ts_if, ts_ret, s_rais, seqT_nx, seqT_rt, seqT_exn, seqT_bk, seqT_ct, bindT_ok, bindT_exn, outT_ok, outT_exn, tstT_ok, tstT_exn, asBT_bl, c_eqI, c_neI, c_ltI, c_leI, c_gtI, c_geI, o_addI, o_subI, n_I, abs_N, ix_tup, lift_some, at0, at1, at2, at3, asT_var, asT_tup, asTs_nil, asTs_cons, ctl_call, List.getElem?_cons_zero, List.getElem?_cons_succ, List.set_cons_zero, List.set_cons_succ, List.length_cons, List.length_nil, List.map_cons, List.map_nil, List.cons_append, List.nil_append, List.replicate_succ, List.replicate_zero, Nat.reduceAdd, Nat.reduceSub, Nat.reduceLT, Nat.reduceLeDiff, sz, Option.bind_some, Option.bind_none, Option.map_some, Bool.false_eq_true, if_true, if_false, reduceIte, Nat.zero_add, startE, Bool.not_true, Bool.not_false, decide_true, decide_false, irDice, h1, int_I, o_modI p, o_pow, int_B, gcM_new (d := []) (Nat.le_refl m.length)]
end
end Dat

/-! Dat22 -/
set_option linter.all false
set_option maxRecDepth 100000
set_option maxHeartbeats 4000000
/-! Dat22: the law's rounds. -/
namespace Dat
open PySem L2
def IsDice (E t : Nat) (c : Cell) : Prop := ∃ a b z, c = .lst [.int a, .int b, .int z] ∧ DOk E t a b
theorem gcM_cut {a : D} {m l : Mem} (hc : Clo m) (ha : a.undr m.length = true) : gcM m.length a (m ++ l) = m := by
  unfold gcM
  have e : (m ++ l).take m.length = m := by simp
  rw [e, if_pos ⟨ha, hc⟩]
theorem cut_take {l : List D} {k : Nat} : cutD l none (some (k : Int)) = l.take k := by
  unfold cutD
  rw [HT.sIx_none, HT.sIx_nat, List.drop_zero, Nat.sub_zero]
  rcases Nat.le_total k l.length with h | h
  · rw [Nat.min_eq_left h]
  · rw [Nat.min_eq_right h, List.take_of_length_le (Nat.le_refl _), List.take_of_length_le h]
theorem toPy0_ints : ∀ l : List Int, toPy0L (l.map .int) = some (l.map .int)
  | [] => rfl
  | x :: l => by simp [toPy0L, toPy0, toPy0_ints l]
theorem lay_ints : ∀ l : List Int, PyData.canLayAll0 (l.map .int) = true ∧ PyData.depthAll (l.map .int) = 0
  | [] => ⟨rfl, rfl⟩
  | x :: l => by
    obtain ⟨h1, h2⟩ := lay_ints l
    exact ⟨by simp only [List.map_cons, PyData.canLayAll0, PyData.canLay0, h1, Bool.and_true], by simp only [List.map_cons, PyData.depthAll, PyData.depth, h2, Nat.max_self]⟩
theorem shaped_ints (l : List Int) : SeqAt.shaped (.list (l.map .int)) = true := by
  obtain ⟨h1, h2⟩ := lay_ints l
  unfold SeqAt.shaped
  simp only [PyData.canLay0, PyData.depth, h1, h2, Bool.true_and]
  decide
theorem eq_nil {m : Mem} {i j : Nat} {l : List Int} (h : m[i]? = some (.lst (l.map .int))) (h2 : m[j]? = some (.lst [])) : cmpD .Eq (.ref i) (.ref j) m = .ok (.bl l.isEmpty) m := by
  have e : eqD m (.ref i) (.ref j) = some l.isEmpty := by
    unfold eqD
    simp only [toPy, h, h2, toPy0_ints, toPy0L, Option.map_some]
    rw [if_pos ⟨shaped_ints l, rfl⟩]
    cases l <;> rfl
  simp only [cmpD, e, liftO, Option.map_some]
theorem ints_undr {k : Nat} : ∀ l : List Int, D.undrL k (l.map .int) = true
  | [] => rfl
  | x :: l => by simp [D.undrL, D.undr, ints_undr l]
theorem Clo.app {m : Mem} {c : Cell} (h : Clo m) (hc : c.undr (m.length + 1) = true) : Clo (m ++ [c]) := by
  intro d hd
  rw [List.length_append]
  rcases List.mem_append.mp hd with e | e
  · exact undrC_le (by simp) d (h d e)
  · rw [List.mem_singleton.mp e]; exact hc
theorem Clo.dice {E t : Nat} : ∀ {ds : List Cell} {m : Mem}, Clo m → (∀ d ∈ ds, IsDice E t d) → Clo (m ++ ds)
  | [], m, h, _ => by simpa using h
  | c :: ds, m, h, hd => by
    have e : m ++ c :: ds = (m ++ [c]) ++ ds := by simp
    rw [e]
    refine Clo.dice (h.app ?_) fun d hd' => hd d (List.mem_cons_of_mem _ hd')
    obtain ⟨a, b, z, rfl, _⟩ := hd c List.mem_cons_self
    rfl
section
variable {P : Prog} {n : Nat}
theorem comp_dice {o : Option (Nat × List D)} {E : Nat} {body : D → Mem → Res (Option D)}
    (hb : ∀ (z : Int) (m : Mem), z.natAbs < 2 ^ E → ∃ c, IsDice E 0 c ∧ body (.int z) m = .ok (some (.ref m.length)) (m ++ [c])) :
    ∀ (cells : List Int) (m : Mem), (∀ z ∈ cells, z.natAbs < 2 ^ E) → (∀ ext, chkW o (m ++ ext)) →
      ∃ ds : List Cell, ds.length = cells.length ∧ (∀ d ∈ ds, IsDice E 0 d) ∧ compL o body (cells.map .int) m = .ok ((List.range' m.length cells.length).map .ref) (m ++ ds)
  | [], m, _, hk => by
    refine ⟨[], rfl, by simp, ?_⟩
    have h0 := hk []
    rw [List.append_nil] at h0
    simp only [List.map_nil, compL, if_pos h0]
    simp
  | z :: cells, m, hz, hk => by
    obtain ⟨c, h1, h2⟩ := hb z m (hz z List.mem_cons_self)
    obtain ⟨ds, e1, e2, e3⟩ := comp_dice hb cells (m ++ [c]) (fun z h => hz z (List.mem_cons_of_mem _ h)) (fun ext => by rw [List.append_assoc]; exact hk _)
    refine ⟨c :: ds, by simp [e1], ?_, ?_⟩
    · intro d hd
      rcases List.mem_cons.mp hd with e | e
      · rw [e]; exact h1
      · exact e2 d e
    · have h0 := hk []
      rw [List.append_nil] at h0
      simp only [List.map_cons, compL, if_pos h0, h2, Res.bind]
      rw [e3]
      simp [optC, List.range'_succ]
theorem e_comp {C : Ctl} {env : EnvD} {m : Mem} {tg : Tg} {it : II} {c e : IE} {own : List Nat} : evalE (.comp tg it c e own) C env m = (evalI it C env m).bind fun I m1 => (compL I.2 (compB C tg c e own env) I.1 m1).bind fun l m2 => if l.length ≤ sizeLine then .ok (.ref m2.length) (m2 ++ [.lst l]) else .stuck := by
  rw [evalE] <;> rfl
theorem rounds_ok {iR iD : Nat} (hR : P.fns[iR]? = some ⟨2, 4, irRounds iD⟩) (hD : P.fns[iD]? = some ⟨1, 1, irDice⟩) {E : Nat} (hE : 31 ≤ E) {m : Mem} (hm : Clo m) {script : D} {ns : List Int} {most : Nat} (hmost : most ≤ 60)
    (hs : ∀ lo hi, slcD script lo hi m = .ok (.ref m.length) (m ++ [.lst (cutD (ns.map .int) lo hi)])) (hz : ∀ z ∈ ns, z.natAbs < 2 ^ E) :
    ∃ (pre ds : Mem), (∀ d ∈ ds, IsDice E 0 d) ∧ ds.length ≤ 60 ∧ Clo (m ++ pre ++ ds ++ [.lst ((List.range' (m.length + pre.length) ds.length).map .ref)]) ∧
      runF P (n + 2) iR [script, .int most] m = .ok (.ref (m.length + pre.length + ds.length)) (m ++ pre ++ ds ++ [.lst ((List.range' (m.length + pre.length) ds.length).map .ref)]) := by
  rw [runF_at hR rfl]
  obtain ⟨C, eC⟩ : ∃ C, C = P.ctl (runF P (n + 1)) (runF P (n + 1 - 2)) (n + 1) := ⟨_, rfl⟩
  have body : ∀ (q : Nat) (z : Int) (m : Mem), z.natAbs < 2 ^ E → ∃ c, IsDice E 0 c ∧ compB C (.var 3) (.con (.bl true)) (.call iD [(.var 3)]) [3] [some script, some (.int most), some (.ref q), none] (.int z) m = .ok (some (.ref m.length)) (m ++ [c]) := fun q z m hz => by
    obtain ⟨a, b, c, h1, h2⟩ := dice_ok (n := n) (m := m) hD hE hz
    refine ⟨_, ⟨a, b, c, rfl, h1⟩, ?_⟩
    have e1 : asgT m (.var 3) (.int z) (wipeE [some script, some (.int most), some (.ref q), none] [3]) = some [some script, some (.int most), some (.ref q), some (.int z)] := by simp [asgT, wipeE]
    have e2 : evalE (.call iD [(.var 3)]) C [some script, some (.int most), some (.ref q), some (.int z)] m = .ok (.ref m.length) (m ++ [.lst [.int a, .int b, .int c]]) := by
      rw [eC]
      simp only [fin_rt, fin_nx, fin_exn, seq_nx, seq_rt, seq_exn, seq_bk, seq_ct, bind_ok, bind_exn, out_ok, out_exn, tst_ok, tst_exn, gc_ok_, gc_exn, gcM_same, asB_bl, selB_t, selB_f, selE_t, selE_f, rdV_some, stT_some, e_var, e_con, e_glo, e_nop, t_bin, t_neg, t_not, t_cmp, t_cmp2, cmp2T_t, cmp2T_f, t_and, t_or, t_if, t_idx, t_tup, t_lst, t_call, t_blt, t_mth, mthT_t, es_nil, ts_cons, b_nil, tb_cons, ts_asg, ts_expr, ts_if, ts_ret, s_rais, seqT_nx, seqT_rt, seqT_exn, seqT_bk, seqT_ct, bindT_ok, bindT_exn, outT_ok, outT_exn, tstT_ok, tstT_exn, asBT_bl, c_eqI, c_neI, c_ltI, c_leI, c_gtI, c_geI, o_addI, o_subI, n_I, abs_N, ix_tup, lift_some, at0, at1, at2, at3, asT_var, asT_tup, asTs_nil, asTs_cons, ctl_call, List.getElem?_cons_zero, List.getElem?_cons_succ, List.set_cons_zero, List.set_cons_succ, List.length_cons, List.length_nil, List.map_cons, List.map_nil, List.cons_append, List.nil_append, List.replicate_succ, List.replicate_zero, Nat.reduceAdd, Nat.reduceSub, Nat.reduceLT, Nat.reduceLeDiff, sz, Option.bind_some, Option.bind_none, Option.map_some, Bool.false_eq_true, if_true, if_false, reduceIte, Nat.zero_add, startE, Bool.not_true, Bool.not_false, decide_true, decide_false, h2]
    unfold compB
    simp only [e1, e_con, e2]
  -- the end, behind the test
  have fin : ∀ (q : Nat) (cells : List Int) (m1 : Mem), cells.length ≤ 60 → (∀ z ∈ cells, z.natAbs < 2 ^ E) → m1[q]? = some (.lst (cells.map .int)) → ∃ ds : List Cell, ds.length = cells.length ∧ (∀ d ∈ ds, IsDice E 0 d) ∧
      evalE (.comp (.var 3) (.seq (.var 2)) (.con (.bl true)) (.call iD [(.var 3)]) [3]) C [some script, some (.int most), some (.ref q), none] m1 = .ok (.ref (m1.length + ds.length)) (m1 ++ ds ++ [.lst ((List.range' m1.length ds.length).map .ref)]) := fun q cells m1 hl hzc hq => by
    obtain ⟨ds, e1, e2, e3⟩ := comp_dice (o := some (q, cells.map .int)) (body q) cells m1 hzc (fun ext => by
      show (m1 ++ ext)[q]? = _
      rw [List.getElem?_append_left (List.getElem?_eq_some_iff.mp hq).1, hq])
    refine ⟨ds, e1, e2, ?_⟩
    have e4 : evalI (.seq (.var 2)) C [some script, some (.int most), some (.ref q), none] m1 = .ok (cells.map .int, some (q, cells.map .int)) m1 := by
      simp only [evalI, e_var, List.getElem?_cons_succ, List.getElem?_cons_zero, rdV_some, bind_ok, seqW, hq]
    rw [e_comp, e4]
    simp only [bind_ok, e3]
    rw [if_pos (by rw [List.length_map, List.length_range']; have : 64 ≤ sizeLine := by decide
                   omega)]
    simp [e1]
  have e1 : evalE (.slc false true (.var 0) .nop (.var 1)) C [some script, some (.int most), none, none] m = .ok (.ref m.length) (m ++ [.lst ((ns.take most).map .int)]) := by
    have e0 := hs none (some (most : Int))
    rw [cut_take, ← List.map_take] at e0
    simp only [evalE, List.getElem?_cons_succ, List.getElem?_cons_zero, Res.bind, partD, Bool.false_eq_true, if_false, if_true, e0]
  obtain ⟨m1, hm1⟩ : ∃ m1, m1 = m ++ [Cell.lst ((ns.take most).map .int)] := ⟨_, rfl⟩
  have c1 : Clo m1 := hm1 ▸ hm.app (ints_undr _)
  have q1 : m1[m.length]? = some (.lst ((ns.take most).map .int)) := by rw [hm1]; simp
  have l1 : m1.length = m.length + 1 := by rw [hm1]; simp
  have e2 := eq_nil (m := m1 ++ [.lst []]) (i := m.length) (j := m1.length) (l := ns.take most) (by rw [List.getElem?_append_left (by omega)]; exact q1) (by simp)
  have g1 : ∀ b : Bool, gcM m1.length (.bl b) (m1 ++ [Cell.lst []]) = m1 := fun b => gcM_cut c1 rfl
  have g0 : gcM m.length (.ref m.length) m1 = m1 := by rw [hm1]; exact gcM_new (d := []) (Nat.le_refl _)
  rw [← hm1] at e1
  have refsU : ∀ (k j : Nat), D.undrL (k + j + 1) ((List.range' k j).map .ref) = true := fun k j => by
    have : ∀ (l : List Nat) (N : Nat), (∀ i ∈ l, i < N) → D.undrL N (l.map .ref) = true := fun l N => by
      induction l with
      | nil => intro _; rfl
      | cons x l ih =>
        intro h
        simp only [List.map_cons, D.undrL, D.undr, Bool.and_eq_true, decide_eq_true_eq]
        exact ⟨h x List.mem_cons_self, ih fun i hi => h i (List.mem_cons_of_mem _ hi)⟩
    refine this _ _ fun i hi => ?_
    rw [List.mem_range'] at hi
    omega
  rw [← eC]
  cases he : (ns.take most).isEmpty with
  | false =>
    obtain ⟨ds, f1, f2, f3⟩ := fin m.length (ns.take most) m1 (by rw [List.length_take]; omega) (fun z h => hz z (List.mem_of_mem_take h)) q1
    have gE : gcM m.length (.ref (m1.length + ds.length)) (m1 ++ ds ++ [Cell.lst ((List.range' m1.length ds.length).map .ref)]) = m1 ++ ds ++ [Cell.lst ((List.range' m1.length ds.length).map .ref)] := by
      rw [hm1, List.append_assoc, List.append_assoc]
      exact gcM_new (d := []) (by simp; omega)
    refine ⟨[.lst ((ns.take most).map .int)], ds, f2, by rw [f1, List.length_take]; omega, ?_, ?_⟩
    · have := (Clo.dice c1 f2).app (c := .lst ((List.range' (m.length + 1) ds.length).map .ref)) (by
        rw [List.length_append, l1]
        exact refsU _ _)
      rw [hm1] at this
      exact this
    · rw [he] at e2
      simp only [fin_rt, fin_nx, fin_exn, seq_nx, seq_rt, seq_exn, seq_bk, seq_ct, bind_ok, bind_exn, out_ok, out_exn, tst_ok, tst_exn, gc_ok_, gc_exn, gcM_same, asB_bl, selB_t, selB_f, selE_t, selE_f, rdV_some, stT_some, e_var, e_con, e_glo, e_nop, t_bin, t_neg, t_not, t_cmp, t_cmp2, cmp2T_t, cmp2T_f, t_and, t_or, t_if, t_idx, t_tup, t_lst, t_call, t_blt, t_mth, mthT_t, es_nil, ts_cons, b_nil, tb_cons, ts_asg, ts_expr, ts_if, ts_ret, s_rais, seqT_nx, seqT_rt, seqT_exn, seqT_bk, seqT_ct, bindT_ok, bindT_exn, outT_ok, outT_exn, tstT_ok, tstT_exn, asBT_bl, c_eqI, c_neI, c_ltI, c_leI, c_gtI, c_geI, o_addI, o_subI, n_I, abs_N, ix_tup, lift_some, at0, at1, at2, at3, asT_var, asT_tup, asTs_nil, asTs_cons, ctl_call, List.getElem?_cons_zero, List.getElem?_cons_succ, List.set_cons_zero, List.set_cons_succ, List.length_cons, List.length_nil, List.map_cons, List.map_nil, List.cons_append, List.nil_append, List.replicate_succ, List.replicate_zero, Nat.reduceAdd, Nat.reduceSub, Nat.reduceLT, Nat.reduceLeDiff, sz, Option.bind_some, Option.bind_none, Option.map_some, Bool.false_eq_true, if_true, if_false, reduceIte, Nat.zero_add, startE, Bool.not_true, Bool.not_false, decide_true, decide_false, irRounds, e1, e2, g0, g1, f3, gE]
      rw [hm1]
      simp
  | true =>
    have m2 : (m1 ++ [Cell.lst [.int 0]])[m1.length]? = some (.lst (([0] : List Int).map .int)) := by simp
    obtain ⟨ds, f1, f2, f3⟩ := fin m1.length [0] (m1 ++ [.lst [.int 0]]) (by simp) (fun z h => by
      rw [List.mem_singleton.mp h]
      exact Nat.two_pow_pos E) m2
    have gL : gcM m1.length (.ref m1.length) (m1 ++ [Cell.lst [.int 0]]) = m1 ++ [Cell.lst [.int 0]] := gcM_new (d := []) (Nat.le_refl _)
    have gE : gcM m.length (.ref ((m1 ++ [Cell.lst [.int 0]]).length + ds.length)) (m1 ++ [Cell.lst [.int 0]] ++ ds ++ [Cell.lst ((List.range' (m1 ++ [Cell.lst [.int 0]]).length ds.length).map .ref)]) = m1 ++ [Cell.lst [.int 0]] ++ ds ++ [Cell.lst ((List.range' (m1 ++ [Cell.lst [.int 0]]).length ds.length).map .ref)] := by
      rw [hm1, List.append_assoc, List.append_assoc, List.append_assoc]
      exact gcM_new (d := []) (by simp; omega)
    have c2 : Clo (m1 ++ [Cell.lst [.int 0]]) := c1.app rfl
    refine ⟨[.lst ((ns.take most).map .int), .lst [.int 0]], ds, f2, by rw [f1]; decide, ?_, ?_⟩
    · have := (Clo.dice c2 f2).app (c := .lst ((List.range' (m.length + 2) ds.length).map .ref)) (by
        rw [List.length_append, List.length_append, l1]
        exact refsU _ _)
      rw [hm1] at this
      simpa using this
    · rw [he] at e2
      simp only [fin_rt, fin_nx, fin_exn, seq_nx, seq_rt, seq_exn, seq_bk, seq_ct, bind_ok, bind_exn, out_ok, out_exn, tst_ok, tst_exn, gc_ok_, gc_exn, gcM_same, asB_bl, selB_t, selB_f, selE_t, selE_f, rdV_some, stT_some, e_var, e_con, e_glo, e_nop, t_bin, t_neg, t_not, t_cmp, t_cmp2, cmp2T_t, cmp2T_f, t_and, t_or, t_if, t_idx, t_tup, t_lst, t_call, t_blt, t_mth, mthT_t, es_nil, ts_cons, b_nil, tb_cons, ts_asg, ts_expr, ts_if, ts_ret, s_rais, seqT_nx, seqT_rt, seqT_exn, seqT_bk, seqT_ct, bindT_ok, bindT_exn, outT_ok, outT_exn, tstT_ok, tstT_exn, asBT_bl, c_eqI, c_neI, c_ltI, c_leI, c_gtI, c_geI, o_addI, o_subI, n_I, abs_N, ix_tup, lift_some, at0, at1, at2, at3, asT_var, asT_tup, asTs_nil, asTs_cons, ctl_call, List.getElem?_cons_zero, List.getElem?_cons_succ, List.set_cons_zero, List.set_cons_succ, List.length_cons, List.length_nil, List.map_cons, List.map_nil, List.cons_append, List.nil_append, List.replicate_succ, List.replicate_zero, Nat.reduceAdd, Nat.reduceSub, Nat.reduceLT, Nat.reduceLeDiff, sz, Option.bind_some, Option.bind_none, Option.map_some, Bool.false_eq_true, if_true, if_false, reduceIte, Nat.zero_add, startE, Bool.not_true, Bool.not_false, decide_true, decide_false, irRounds, e1, e2, g0, g1, gL, f3, gE]
      rw [hm1]
      simp
end
end Dat

/-! Dat23 -/
set_option linter.all false
set_option maxRecDepth 100000
set_option maxHeartbeats 4000000
/-! Dat23: a law that asks its body of each dice. -/
namespace Dat
open PySem L2
/-- the body, at a dice: all is asked, the dice's numbers alone change -/
def BodyOk (C : Ctl) (B : List IS) (nn E : Nat) : Prop := ∀ (env : EnvD) (m : Mem) (i : Nat) (a b z : Int), env.length = nn → env[1]? = some (some (.ref i)) → Clo m → m[i]? = some (.lst [.int a, .int b, .int z]) → DOk E 0 a b →
  ∃ env' a' b' z', env'.length = nn ∧ evalB C B env m = .nx env' (m.set i (.lst [.int a', .int b', .int z']))
theorem Clo.set {m : Mem} {i : Nat} {a b z : Int} (h : Clo m) : Clo (m.set i (.lst [.int a, .int b, .int z])) := by
  intro c hc
  rw [List.length_set]
  rcases List.mem_or_eq_of_mem_set hc with e | e
  · exact h c e
  · rw [e]; rfl
theorem for_dice {C : Ctl} {B : List IS} {nn E : Nat} (hB : BodyOk C B nn E) (hn : 1 < nn) {r : Nat} {L : List D} : ∀ (j k : Nat) (env : EnvD) (m : Mem), env.length = nn → Clo m → m[r]? = some (.lst L) → k + j ≤ r → (∀ i, k ≤ i → i < k + j → ∃ c, m[i]? = some c ∧ IsDice E 0 c) →
    ∃ env' m', forL (some (r, L)) (.var 1) (fun e m2 => evalB C B e m2) ((List.range' k j).map .ref) env m = .nx env' m'
  | 0, k, env, m, _, _, hr, _, _ => ⟨env, m, by
      simp only [List.range'_zero, List.map_nil, forL]
      rw [if_pos (show chkW (some (r, L)) m from hr)]⟩
  | j + 1, k, env, m, hl, hc, hr, hk, hd => by
    obtain ⟨c, h1, a, b, z, rfl, h2⟩ := hd k (Nat.le_refl _) (by omega)
    have hl1 : (env.set 1 (some (.ref k))).length = nn := by rw [List.length_set]; exact hl
    obtain ⟨env', a', b', z', e1, e2⟩ := hB (env.set 1 (some (.ref k))) m k a b z hl1 (List.getElem?_set_self (by omega)) hc h1 h2
    have kr : k ≠ r := by omega
    obtain ⟨env2, m2, e3⟩ := for_dice hB hn j (k + 1) env' (m.set k (.lst [.int a', .int b', .int z'])) e1 hc.set (by rw [List.getElem?_set_ne kr]; exact hr) (by omega) (fun i h3 h4 => by
      have ki : k ≠ i := by omega
      rw [List.getElem?_set_ne ki]
      exact hd i (by omega) (by omega))
    refine ⟨env2, m2, ?_⟩
    rw [List.range'_succ, List.map_cons]
    simp only [forL]
    rw [if_pos (show chkW (some (r, L)) m from hr), asgT, if_pos (by omega)]
    simp only [e2]
    exact e3
theorem law_run {P : Prog} {n iR iD iL nn most : Nat} {B : List IS} (hR : P.fns[iR]? = some ⟨2, 4, irRounds iD⟩) (hD : P.fns[iD]? = some ⟨1, 1, irDice⟩)
    (hL : P.fns[iL]? = some ⟨1, nn, [(.forS (.var 1) (.seq (.call iR [(.var 0), (.con (.int most))])) B), (.ret (.con (.bl true)))]⟩) (hn : 1 < nn) (hmost : most ≤ 60) {E : Nat} (hE : 31 ≤ E)
    (hB : BodyOk (P.ctl (runF P (n + 2)) (runF P n) (n + 2)) B nn E) {m : Mem} (hm : Clo m) {script : D} {ns : List Int}
    (hs : ∀ lo hi, slcD script lo hi m = .ok (.ref m.length) (m ++ [.lst (cutD (ns.map .int) lo hi)])) (hz : ∀ z ∈ ns, z.natAbs < 2 ^ E) : ∃ m', runF P (n + 3) iL [script] m = .ok (.bl true) m' := by
  rw [runF_at hL rfl]
  obtain ⟨pre, ds, h1, h2, h3, h4⟩ := rounds_ok (n := n) hR hD hE hm hmost hs hz
  have e0 : evalE (.call iR [(.var 0), (.con (.int most))]) (P.ctl (runF P (n + 2)) (runF P (n + 2 - 2)) (n + 2)) (startE 1 nn [script]) m = .ok (.ref (m.length + pre.length + ds.length)) (m ++ pre ++ ds ++ [.lst ((List.range' (m.length + pre.length) ds.length).map .ref)]) := by
    simp only [fin_rt, fin_nx, fin_exn, seq_nx, seq_rt, seq_exn, seq_bk, seq_ct, bind_ok, bind_exn, out_ok, out_exn, tst_ok, tst_exn, gc_ok_, gc_exn, gcM_same, asB_bl, selB_t, selB_f, selE_t, selE_f, rdV_some, stT_some, e_var, e_con, e_glo, e_nop, t_bin, t_neg, t_not, t_cmp, t_cmp2, cmp2T_t, cmp2T_f, t_and, t_or, t_if, t_idx, t_tup, t_lst, t_call, t_blt, t_mth, mthT_t, es_nil, ts_cons, b_nil, tb_cons, ts_asg, ts_expr, ts_if, ts_ret, s_rais, seqT_nx, seqT_rt, seqT_exn, seqT_bk, seqT_ct, bindT_ok, bindT_exn, outT_ok, outT_exn, tstT_ok, tstT_exn, asBT_bl, c_eqI, c_neI, c_ltI, c_leI, c_gtI, c_geI, o_addI, o_subI, n_I, abs_N, ix_tup, lift_some, at0, at1, at2, at3, asT_var, asT_tup, asTs_nil, asTs_cons, ctl_call, List.getElem?_cons_zero, List.getElem?_cons_succ, List.set_cons_zero, List.set_cons_succ, List.length_cons, List.length_nil, List.map_cons, List.map_nil, List.cons_append, List.nil_append, List.replicate_succ, List.replicate_zero, Nat.reduceAdd, Nat.reduceSub, Nat.reduceLT, Nat.reduceLeDiff, sz, Option.bind_some, Option.bind_none, Option.map_some, Bool.false_eq_true, if_true, if_false, reduceIte, Nat.zero_add, startE, Bool.not_true, Bool.not_false, decide_true, decide_false, h4]
  obtain ⟨m1, hm1⟩ : ∃ m1, m1 = m ++ pre ++ ds ++ [Cell.lst ((List.range' (m.length + pre.length) ds.length).map .ref)] := ⟨_, rfl⟩
  rw [← hm1] at e0 h3
  have hr : m1[m.length + pre.length + ds.length]? = some (.lst ((List.range' (m.length + pre.length) ds.length).map .ref)) := by
    have : m.length + pre.length + ds.length = (m ++ pre ++ ds).length := by simp only [List.length_append]
    rw [hm1, this, List.getElem?_concat_length]
  have e1 : evalI (.seq (.call iR [(.var 0), (.con (.int most))])) (P.ctl (runF P (n + 2)) (runF P (n + 2 - 2)) (n + 2)) (startE 1 nn [script]) m = .ok ((List.range' (m.length + pre.length) ds.length).map .ref, some (m.length + pre.length + ds.length, (List.range' (m.length + pre.length) ds.length).map .ref)) m1 := by
    simp only [evalI, e0, bind_ok, seqW, hr]
  obtain ⟨env', m', e2⟩ := for_dice hB hn ds.length (m.length + pre.length) (startE 1 nn [script]) m1 (by simp [startE]; omega) h3 hr (Nat.le_refl _) (fun i h5 h6 => by
    have hi : i - (m.length + pre.length) < ds.length := by omega
    refine ⟨ds[i - (m.length + pre.length)], ?_, h1 _ (List.getElem_mem hi)⟩
    rw [hm1, List.getElem?_append_left (by simp; omega), List.getElem?_append_right (by simp; omega)]
    simp)
  refine ⟨gcM m.length (.bl true) m', ?_⟩
  have e3 : evalS (P.ctl (runF P (n + 2)) (runF P (n + 2 - 2)) (n + 2)) (.forS (.var 1) (.seq (.call iR [(.var 0), (.con (.int most))])) B) (startE 1 nn [script]) m = .nx env' m' := by
    rw [s_for, e1]
    exact e2
  show finF m.length (evalB _ [_, _] _ m) = _
  rw [b_cons, e3]
  simp only [fin_rt, fin_nx, fin_exn, seq_nx, seq_rt, seq_exn, seq_bk, seq_ct, bind_ok, bind_exn, out_ok, out_exn, tst_ok, tst_exn, gc_ok_, gc_exn, gcM_same, asB_bl, selB_t, selB_f, selE_t, selE_f, rdV_some, stT_some, e_var, e_con, e_glo, e_nop, t_bin, t_neg, t_not, t_cmp, t_cmp2, cmp2T_t, cmp2T_f, t_and, t_or, t_if, t_idx, t_tup, t_lst, t_call, t_blt, t_mth, mthT_t, es_nil, ts_cons, b_nil, tb_cons, ts_asg, ts_expr, ts_if, ts_ret, s_rais, seqT_nx, seqT_rt, seqT_exn, seqT_bk, seqT_ct, bindT_ok, bindT_exn, outT_ok, outT_exn, tstT_ok, tstT_exn, asBT_bl, c_eqI, c_neI, c_ltI, c_leI, c_gtI, c_geI, o_addI, o_subI, n_I, abs_N, ix_tup, lift_some, at0, at1, at2, at3, asT_var, asT_tup, asTs_nil, asTs_cons, ctl_call, List.getElem?_cons_zero, List.getElem?_cons_succ, List.set_cons_zero, List.set_cons_succ, List.length_cons, List.length_nil, List.map_cons, List.map_nil, List.cons_append, List.nil_append, List.replicate_succ, List.replicate_zero, Nat.reduceAdd, Nat.reduceSub, Nat.reduceLT, Nat.reduceLeDiff, sz, Option.bind_some, Option.bind_none, Option.map_some, Bool.false_eq_true, if_true, if_false, reduceIte, Nat.zero_add, startE, Bool.not_true, Bool.not_false, decide_true, decide_false]
theorem bits_lt {E : Nat} {z : Int} (h : Builtin.Int.intBits z ≤ E) : z.natAbs < 2 ^ E := by
  unfold Builtin.Int.intBits at h
  split at h
  · rename_i h0
    have : z = 0 := by simpa using h0
    subst this
    exact Nat.two_pow_pos E
  · rename_i h0
    have : z.natAbs ≠ 0 := fun q => h0 (by simpa using q)
    exact (Nat.log2_lt this).mp (by omega)
/-- all that is left of a law: its body -/
theorem plain_of {L : LawI} {n iR iD iL nn most : Nat} {B : List IS} (hR : L.prog.fns[iR]? = some ⟨2, 4, irRounds iD⟩) (hD : L.prog.fns[iD]? = some ⟨1, 1, irDice⟩)
    (hL : L.prog.fns[iL]? = some ⟨1, nn, [(.forS (.var 1) (.seq (.call iR [(.var 0), (.con (.int most))])) B), (.ret (.con (.bl true)))]⟩) (hn : 1 < nn) (hmost : most ≤ 60)
    (hB : ∀ E, 31 ≤ E → E ≤ 134217700 → BodyOk (L.prog.ctl (runF L.prog (n + 2)) (runF L.prog n) (n + 2)) B nn E) : Plain L (n + 3) 63 iL := by
  intro ns _ hb
  obtain ⟨E, hE⟩ : ∃ E, E = 1048576 := ⟨_, rfl⟩
  have hz : ∀ z ∈ ns, z.natAbs < 2 ^ E := fun z h => bits_lt (by rw [hE]; exact hb z h)
  have h1 : 31 ≤ E := by omega
  have h2 : E ≤ 134217700 := by omega
  refine ⟨law_run hR hD hL hn hmost h1 (hB E h1 h2) (m := []) (fun c h => by simp at h) (fun lo hi => rfl) hz, law_run hR hD hL hn hmost h1 (hB E h1 h2) (m := [.lst (ns.map .int)]) (fun c h => ?_) (fun lo hi => rfl) hz⟩
  rw [List.mem_singleton.mp h]
  exact ints_undr ns
end Dat

/-! Dat24 -/
set_option linter.all false
/-! Dat24: closed calls by the kernel. -/
namespace Dat
open PySem L2
def resIs (r : Res D) (v : D) : Bool := match r with
  | .ok d [] => D.beq d v
  | _ => false
theorem resIs_ok {r : Res D} {v : D} (h : resIs r v = true) : r = .ok v [] := by
  unfold resIs at h
  split at h
  · rw [(D.beq_iff _ _).mp h]
  · cases h
def resEx (r : Res D) (c : Str) : Bool := match r with
  | .exn k none _ => decide (k = c)
  | _ => false
/-- what is raised leaves its lists behind: the memory is not [] -/
theorem resEx_ok {r : Res D} {c : Str} (h : resEx r c = true) : ∃ m, r = .exn c none m := by
  unfold resEx at h
  split at h
  · exact ⟨_, by rw [of_decide_eq_true h]⟩
  · cases h
theorem run_exn' {m0 : Mem} (hc : Clo m0) {P : Prog} (ok : okP P = true) {n f : Nat} {ds : List D} {c : Str} (hd : D.undrL 0 ds = true) (h : resEx (runF P n f ds []) c = true) : ∃ m', runF P n f ds m0 = .exn c none (m0 ++ m') := by
  obtain ⟨m, e1⟩ := resEx_ok h
  have e := run_sh hc ok n f ds []
  rw [shL_con ds hd, e1] at e
  exact ⟨_, by simpa [frR, frM] using e⟩
theorem run_at' {m0 : Mem} (hc : Clo m0) {P : Prog} (ok : okP P = true) {n f : Nat} {ds : List D} {v : D} (hd : D.undrL 0 ds = true) (h : resIs (runF P n f ds []) v = true) (hv : D.undr 0 v = true) : runF P n f ds m0 = .ok v m0 := run_at hc ok hd (resIs_ok h) hv
theorem floor_ok {P : Prog} {f n : Nat} {m : Mem} (hf : P.fns[f]? = some ⟨1, 1, irFloor⟩) {q : Rat} (hq : Sz q) : runF P (n + 1) f [encQ q] m = .ok (.int (q.num / q.den)) m := by
  rw [runF_at hf rfl]
  have g : DivG q.num q.den := divG_of (den_ne q) (by
    rw [Int.natAbs_natCast]
    exact Nat.lt_of_lt_of_le hq.2 (Nat.pow_le_pow_right (by decide) (by decide)))
  rw [← Int.fdiv_eq_ediv_of_nonneg _ (Int.natCast_nonneg _)]
  simp only [fin_rt, fin_nx, fin_exn, seq_nx, seq_rt, seq_exn, seq_bk, seq_ct, bind_ok, bind_exn, out_ok, out_exn, tst_ok, tst_exn, gc_ok_, gc_exn, gcM_same, asB_bl, selB_t, selB_f, selE_t, selE_f, rdV_some, stT_some, e_var, e_con, e_glo, e_nop, t_bin, t_neg, t_not, t_cmp, t_cmp2, cmp2T_t, cmp2T_f, t_and, t_or, t_if, t_idx, t_tup, t_lst, t_call, t_blt, t_mth, mthT_t, es_nil, ts_cons, b_nil, tb_cons, ts_asg, ts_expr, ts_if, ts_ret, s_rais, seqT_nx, seqT_rt, seqT_exn, seqT_bk, seqT_ct, bindT_ok, bindT_exn, outT_ok, outT_exn, tstT_ok, tstT_exn, asBT_bl, c_eqI, c_neI, c_ltI, c_leI, c_gtI, c_geI, o_addI, o_subI, n_I, abs_N, ix_tup, lift_some, at0, at1, at2, at3, asT_var, asT_tup, asTs_nil, asTs_cons, ctl_call, List.getElem?_cons_zero, List.getElem?_cons_succ, List.set_cons_zero, List.set_cons_succ, List.length_cons, List.length_nil, List.map_cons, List.map_nil, List.cons_append, List.nil_append, List.replicate_succ, List.replicate_zero, Nat.reduceAdd, Nat.reduceSub, Nat.reduceLT, Nat.reduceLeDiff, sz, Option.bind_some, Option.bind_none, Option.map_some, Bool.false_eq_true, if_true, if_false, reduceIte, Nat.zero_add, startE, Bool.not_true, Bool.not_false, decide_true, decide_false, irFloor, encQ, o_divI g]
end Dat

/-! Dat25 -/
set_option linter.all false
set_option maxRecDepth 100000
set_option maxHeartbeats 4000000
/-! Dat25: a name that is not read does not matter. -/
namespace Dat
open PySem L2
mutual
def nvT (v : Nat) : Tg → Bool
  | .var i => decide (i ≠ v)
  | .tup l => nvTs v l
def nvTs (v : Nat) : List Tg → Bool
  | [] => true
  | t :: l => nvT v t && nvTs v l
end
mutual
def nvE (v : Nat) : IE → Bool
  | .var i => decide (i ≠ v)
  | .con _ => true
  | .glo _ _ => true
  | .nop => true
  | .bin _ a b => nvE v a && nvE v b
  | .neg a => nvE v a
  | .notE a => nvE v a
  | .cmp _ a b => nvE v a && nvE v b
  | .cmp2 _ _ a b c => nvE v a && (nvE v b && nvE v c)
  | .andE a b => nvE v a && nvE v b
  | .orE a b => nvE v a && nvE v b
  | .ifE a b c => nvE v a && (nvE v b && nvE v c)
  | .idx a b => nvE v a && nvE v b
  | .slc _ _ a b c => nvE v a && (nvE v b && nvE v c)
  | .tup l => nvEs v l
  | .lst l => nvEs v l
  | .call _ l => nvEs v l
  | .blt _ l => nvEs v l
  | .mth _ o l => nvE v o && nvEs v l
  | .comp tg it c e own => (nvT v tg && decide (v ∉ own)) && (nvI v it && (nvE v c && nvE v e))
  | .told _ e => nvE v e
  | .lrev e => nvE v e
def nvEs (v : Nat) : List IE → Bool
  | [] => true
  | e :: l => nvE v e && nvEs v l
def nvI (v : Nat) : II → Bool
  | .seq e => nvE v e
  | .rng1 l => nvEs v l
  | .rng l => nvEs v l
  | .rev e => nvE v e
  | .enm e => nvE v e
  | .zip l => nvEs v l
end
mutual
def nvS (v : Nat) : IS → Bool
  | .expr e => nvE v e
  | .asg t e => nvT v t && nvE v e
  | .aug i _ e => decide (i ≠ v) && nvE v e
  | .setI o i e => nvE v o && (nvE v i && nvE v e)
  | .ifS c a b => nvE v c && (nvB v a && nvB v b)
  | .whl c b => nvE v c && nvB v b
  | .forS t it b => nvT v t && (nvI v it && nvB v b)
  | .ret e => nvE v e
  | .retN => true
  | .rais _ => true
  | .pass => true
  | .brk => true
  | .cnt => true
def nvB (v : Nat) : List IS → Bool
  | [] => true
  | s :: r => nvS v s && nvB v r
end
section
variable {v : Nat} {x : Option D}
theorem wipe_nv : ∀ (own : List Nat) (env : EnvD), v ∉ own → wipeE (env.set v x) own = (wipeE env own).set v x
  | [], env, _ => rfl
  | w :: ws, env, h => by
    simp only [List.mem_cons, not_or] at h
    simp only [wipeE]
    rw [wipe_nv ws env h.2, List.set_comm _ _ h.1]
mutual
theorem asgT_nv {m : Mem} : ∀ (t : Tg) (d : D) (env : EnvD), nvT v t = true → asgT m t d (env.set v x) = (asgT m t d env).map (fun e => e.set v x)
  | .var i, d, env, h => by
    simp only [nvT, decide_eq_true_eq] at h
    simp only [asgT, List.length_set]
    split
    · simp only [Option.map_some]
      rw [List.set_comm _ _ (Ne.symm h)]
    · rfl
  | .tup ts, d, env, h => by
    simp only [nvT] at h
    simp only [asgT]
    cases seqD m d with
    | none => rfl
    | some ds => exact asgTs_nv ts ds env h
theorem asgTs_nv {m : Mem} : ∀ (t : List Tg) (d : List D) (env : EnvD), nvTs v t = true → asgTs m t d (env.set v x) = (asgTs m t d env).map (fun e => e.set v x)
  | [], [], env, _ => by simp [asgTs]
  | [], _ :: _, env, _ => by simp [asgTs]
  | _ :: _, [], env, _ => by simp [asgTs]
  | t :: ts, d :: ds, env, h => by
    simp only [nvTs, Bool.and_eq_true] at h
    simp only [asgTs]
    rw [asgT_nv t d env h.1]
    cases asgT m t d env with
    | none => rfl
    | some e => exact asgTs_nv ts ds e h.2
end
mutual
theorem evE_nv : ∀ (e : IE), nvE v e = true → ∀ (C : Ctl) (env : EnvD) (m : Mem), evalE e C (env.set v x) m = evalE e C env m
  | .var i, h, C, env, m => by
    simp only [nvE, decide_eq_true_eq] at h
    rw [e_var, e_var, List.getElem?_set_ne (Ne.symm h)]
  | .con d, _, C, env, m => by simp only [e_con]
  | .glo y d, _, C, env, m => by simp only [e_glo]
  | .nop, _, C, env, m => by simp only [e_nop]
  | .bin op a b, h, C, env, m => by
    simp only [nvE, Bool.and_eq_true] at h
    simp only [e_bin, evE_nv a h.1, evE_nv b h.2]
  | .neg a, h, C, env, m => by
    simp only [nvE] at h
    simp only [e_neg, evE_nv a h]
  | .notE a, h, C, env, m => by
    simp only [nvE] at h
    simp only [e_not, evE_nv a h]
  | .cmp op a b, h, C, env, m => by
    simp only [nvE, Bool.and_eq_true] at h
    simp only [e_cmp, evE_nv a h.1, evE_nv b h.2]
  | .cmp2 o1 o2 a b c, h, C, env, m => by
    simp only [nvE, Bool.and_eq_true] at h
    simp only [e_cmp2, evE_nv a h.1, evE_nv b h.2.1, evE_nv c h.2.2]
  | .andE a b, h, C, env, m => by
    simp only [nvE, Bool.and_eq_true] at h
    simp only [e_and, selE, e_con, evE_nv a h.1, evE_nv b h.2]
  | .orE a b, h, C, env, m => by
    simp only [nvE, Bool.and_eq_true] at h
    simp only [e_or, selE, e_con, evE_nv a h.1, evE_nv b h.2]
  | .ifE a b c, h, C, env, m => by
    simp only [nvE, Bool.and_eq_true] at h
    simp only [e_if, selE, evE_nv a h.1, evE_nv b h.2.1, evE_nv c h.2.2]
  | .idx a b, h, C, env, m => by
    simp only [nvE, Bool.and_eq_true] at h
    simp only [e_idx, evE_nv a h.1, evE_nv b h.2]
  | .slc bl bh a lo hi, h, C, env, m => by
    simp only [nvE, Bool.and_eq_true] at h
    simp only [evalE, evE_nv a h.1, evE_nv lo h.2.1, evE_nv hi h.2.2]
  | .tup l, h, C, env, m => by
    simp only [nvE] at h
    simp only [e_tup, evEs_nv l h]
  | .lst l, h, C, env, m => by
    simp only [nvE] at h
    simp only [e_lst, evEs_nv l h]
  | .call f l, h, C, env, m => by
    simp only [nvE] at h
    simp only [e_call, evEs_nv l h]
  | .blt b l, h, C, env, m => by
    simp only [nvE] at h
    simp only [e_blt, evEs_nv l h]
  | .mth q o l, h, C, env, m => by
    simp only [nvE, Bool.and_eq_true] at h
    simp only [e_mth, evE_nv o h.1, evEs_nv l h.2]
  | .comp tg it c e own, h, C, env, m => by
    simp only [nvE, Bool.and_eq_true, decide_eq_true_eq] at h
    simp only [evalE, evI_nv it h.2.1, wipe_nv own env h.1.2, asgT_nv tg _ _ h.1.1]
    congr 1
    funext I m1
    congr 2
    funext d m2
    cases asgT m2 tg d (wipeE env own) with
    | none => rfl
    | some env2 => simp only [Option.map_some, evE_nv c h.2.2.1, evE_nv e h.2.2.2]
  | .told f e, h, C, env, m => by
    simp only [nvE] at h
    simp only [evalE, evE_nv e h]
  | .lrev e, h, C, env, m => by
    simp only [nvE] at h
    simp only [evalE, evE_nv e h]
theorem evEs_nv : ∀ (l : List IE), nvEs v l = true → ∀ (C : Ctl) (env : EnvD) (m : Mem), evalEs l C (env.set v x) m = evalEs l C env m
  | [], _, C, env, m => by simp only [es_nil]
  | e :: l, h, C, env, m => by
    simp only [nvEs, Bool.and_eq_true] at h
    simp only [es_cons, evE_nv e h.1, evEs_nv l h.2]
theorem evI_nv : ∀ (it : II), nvI v it = true → ∀ (C : Ctl) (env : EnvD) (m : Mem), evalI it C (env.set v x) m = evalI it C env m
  | .seq e, h, C, env, m => by
    simp only [nvI] at h
    simp only [evalI, evE_nv e h]
  | .rng1 l, h, C, env, m => by
    simp only [nvI] at h
    simp only [evalI, evEs_nv l h]
  | .rng l, h, C, env, m => by
    simp only [nvI] at h
    simp only [evalI, evEs_nv l h]
  | .rev e, h, C, env, m => by
    simp only [nvI] at h
    simp only [evalI, evE_nv e h]
  | .enm e, h, C, env, m => by
    simp only [nvI] at h
    simp only [evalI, evE_nv e h]
  | .zip l, h, C, env, m => by
    simp only [nvI] at h
    simp only [evalI, evEs_nv l h]
end
def Out.setV (v : Nat) (x : Option D) : Out → Out
  | .nx env m => .nx (env.set v x) m
  | .bk env m => .bk (env.set v x) m
  | .ct env m => .ct (env.set v x) m
  | .rt d m => .rt d m
  | .exn c p env m => .exn c p (env.set v x) m
  | .stuck => .stuck
theorem out_nv {α : Type} {r : Res α} {env : EnvD} {f g : α → Mem → Out} (h : ∀ a m, g a m = (f a m).setV v x) : r.out (env.set v x) g = (r.out env f).setV v x := by
  cases r with
  | ok a m => exact h a m
  | _ => rfl
theorem tst_nv {r : Res D} {env : EnvD} {n : Nat} {f g : Bool → Mem → Out} (h : ∀ b m, g b m = (f b m).setV v x) : tstO (env.set v x) r n g = (tstO env r n f).setV v x := by
  unfold tstO
  refine out_nv fun a m => ?_
  cases a with
  | bl b => exact h b m
  | _ => rfl
theorem seq_nv {o : Out} {f g : EnvD → Mem → Out} (h : ∀ e m, g (e.set v x) m = (f e m).setV v x) : (o.setV v x).seq g = (o.seq f).setV v x := by
  cases o with
  | nx e m => exact h e m
  | _ => rfl
theorem while_nv {c : EnvD → Mem → Res D} {b : EnvD → Mem → Out} (h1 : ∀ e m, c (e.set v x) m = c e m) (h2 : ∀ e m, b (e.set v x) m = (b e m).setV v x) :
    ∀ (n : Nat) (e : EnvD) (m : Mem), whileN c b n (e.set v x) m = (whileN c b n e m).setV v x
  | 0, _, _ => rfl
  | n + 1, e, m => by
    rw [while_succ, while_succ, h1]
    refine tst_nv fun t m1 => ?_
    cases t with
    | false => rfl
    | true =>
      simp only [if_true]
      rw [h2]
      cases b e m1 with
      | nx e m2 => exact while_nv h1 h2 n e m2
      | ct e m2 => exact while_nv h1 h2 n e m2
      | _ => rfl
theorem for_nv {o : Option (Nat × List D)} {t : Tg} {b : EnvD → Mem → Out} (ht : nvT v t = true) (h2 : ∀ e m, b (e.set v x) m = (b e m).setV v x) :
    ∀ (l : List D) (e : EnvD) (m : Mem), forL o t b l (e.set v x) m = (forL o t b l e m).setV v x
  | [], e, m => by
    simp only [forL]
    split <;> rfl
  | d :: l, e, m => by
    simp only [forL, asgT_nv t d e ht]
    split
    · cases asgT m t d e with
      | none => rfl
      | some e1 =>
        simp only [Option.map_some]
        rw [h2]
        cases b e1 m with
        | nx e m2 => exact for_nv ht h2 l e m2
        | ct e m2 => exact for_nv ht h2 l e m2
        | _ => rfl
    · rfl
mutual
theorem evS_nv : ∀ (s : IS), nvS v s = true → ∀ (C : Ctl) (env : EnvD) (m : Mem), evalS C s (env.set v x) m = (evalS C s env m).setV v x
  | .expr e, h, C, env, m => by
    simp only [nvS] at h
    rw [s_expr, s_expr, evE_nv e h]
    exact out_nv fun a m1 => rfl
  | .asg t e, h, C, env, m => by
    simp only [nvS, Bool.and_eq_true] at h
    rw [s_asg, s_asg, evE_nv e h.2]
    refine out_nv fun a m1 => ?_
    rw [asgT_nv t a env h.1]
    cases asgT m1 t a env <;> rfl
  | .aug i op e, h, C, env, m => by
    simp only [nvS, Bool.and_eq_true, decide_eq_true_eq] at h
    simp only [evalS]
    rw [List.getElem?_set_ne (Ne.symm h.1)]
    cases hi : env[i]? with
    | none => rfl
    | some o =>
      cases o with
      | none => rfl
      | some y =>
        simp only
        rw [evE_nv e h.2]
        refine out_nv fun z m2 => ?_
        rw [List.set_comm _ _ (Ne.symm h.1)] <;> rfl
  | .setI o i e, h, C, env, m => by
    simp only [nvS, Bool.and_eq_true] at h
    simp only [evalS, evE_nv o h.1, evE_nv i h.2.1, evE_nv e h.2.2]
    exact out_nv fun a m1 => rfl
  | .ifS c a b, h, C, env, m => by
    simp only [nvS, Bool.and_eq_true] at h
    rw [s_if, s_if, evE_nv c h.1]
    refine tst_nv fun t m1 => ?_
    cases t with
    | true => exact evB_nv a h.2.1 C env m1
    | false => exact evB_nv b h.2.2 C env m1
  | .whl c b, h, C, env, m => by
    simp only [nvS, Bool.and_eq_true] at h
    rw [s_whl, s_whl]
    exact while_nv (fun e m => evE_nv c h.1 C e m) (fun e m => evB_nv b h.2 C e m) _ _ _
  | .forS t it b, h, C, env, m => by
    simp only [nvS, Bool.and_eq_true] at h
    rw [s_for, s_for, evI_nv it h.2.1]
    exact out_nv fun I m1 => for_nv h.1 (fun e m => evB_nv b h.2.2 C e m) I.1 env m1
  | .ret e, h, C, env, m => by
    simp only [nvS] at h
    rw [s_ret, s_ret, evE_nv e h]
    exact out_nv fun a m1 => rfl
  | .retN, _, C, env, m => by simp only [evalS]; rfl
  | .rais c, _, C, env, m => by simp only [evalS]; rfl
  | .pass, _, C, env, m => by simp only [evalS]; rfl
  | .brk, _, C, env, m => by simp only [evalS]; rfl
  | .cnt, _, C, env, m => by simp only [evalS]; rfl
theorem evB_nv : ∀ (l : List IS), nvB v l = true → ∀ (C : Ctl) (env : EnvD) (m : Mem), evalB C l (env.set v x) m = (evalB C l env m).setV v x
  | [], _, C, env, m => by simp only [b_nil]; rfl
  | s :: r, h, C, env, m => by
    simp only [nvB, Bool.and_eq_true] at h
    rw [b_cons, b_cons, evS_nv s h.1]
    exact seq_nv fun e m1 => evB_nv r h.2 C e m1
end
end
/-- names that hold no place -/
def EnvD.closed (env : EnvD) : Bool := env.all fun o => match o with
  | some d => D.undr 0 d
  | none => true
theorem closed_sh {k : Nat} {env : EnvD} (h : env.closed = true) : EnvD.sh k env = env := by
  unfold EnvD.sh
  refine (List.map_congr_left fun o ho => ?_).trans (List.map_id env)
  have := List.all_eq_true.mp h o ho
  cases o with
  | none => rfl
  | some d => simp only [Option.map_some, sh_con d this]; rfl
/-- what a run says beside other memory -/
theorem ctl_fr {m0 : Mem} (hc : Clo m0) {P : Prog} (ok : okP P = true) (n : Nat) : CtlFr m0 (P.ctl (runF P n) (runF P (n - 2)) n) (P.ctl (runF P n) (runF P (n - 2)) n) :=
  ⟨fun f ds m => run_sh hc ok n f ds m, fun f ds m => run_sh hc ok (n - 2) f ds m, rfl, rfl, rfl⟩
/-- suites whose names are closed but for one, which is not read: what comes at no memory comes beside any -/
theorem body_rt {m0 : Mem} (hc : Clo m0) {P : Prog} (ok : okP P = true) {n v : Nat} {l : List IS} {env : EnvD} (hl : okB l = true) (hv : nvB v l = true) (he : EnvD.closed (env.set v none) = true) {d : D} (hd : D.undr 0 d = true)
    (h : evalB (P.ctl (runF P n) (runF P (n - 2)) n) l (env.set v none) [] = .rt d []) : evalB (P.ctl (runF P n) (runF P (n - 2)) n) l env m0 = .rt d m0 := by
  have e := frB hc l hl _ _ (env.set v none) [] (ctl_fr hc ok n)
  rw [closed_sh he, h] at e
  have e2 : evalB (P.ctl (runF P n) (runF P (n - 2)) n) l (env.set v none) m0 = .rt d m0 := by
    have : frM m0 [] = m0 := by simp [frM]
    rw [this] at e
    rw [e]
    simp only [frO, sh_con d hd, this]
  rw [evB_nv l hv] at e2
  cases q : evalB (P.ctl (runF P n) (runF P (n - 2)) n) l env m0 <;> rw [q] at e2 <;> simp [Out.setV] at e2
  rw [e2.1, e2.2]
theorem body_nx {m0 : Mem} (hc : Clo m0) {P : Prog} (ok : okP P = true) {n v : Nat} {l : List IS} {env env1 : EnvD} (hl : okB l = true) (hv : nvB v l = true) (he : EnvD.closed (env.set v none) = true) (h1 : EnvD.closed env1 = true)
    (h : evalB (P.ctl (runF P n) (runF P (n - 2)) n) l (env.set v none) [] = .nx env1 []) {y : Option D} (hy : env[v]? = some y) : evalB (P.ctl (runF P n) (runF P (n - 2)) n) l env m0 = .nx (env1.set v y) m0 := by
  have e := frB hc l hl _ _ (env.set v none) [] (ctl_fr hc ok n)
  rw [closed_sh he, h] at e
  have z : frM m0 [] = m0 := by simp [frM]
  rw [z] at e
  have e2 := evB_nv (v := v) (x := y) l hv (P.ctl (runF P n) (runF P (n - 2)) n) (env.set v none) m0
  rw [e] at e2
  have e3 : (env.set v none).set v y = env := by
    rw [List.set_set]
    apply List.ext_getElem?
    intro i
    by_cases hi : v = i
    · subst hi
      rw [List.getElem?_set_self (List.getElem?_eq_some_iff.mp hy).1, hy]
    · rw [List.getElem?_set_ne hi]
  rw [e3] at e2
  rw [e2]
  simp only [frO, Out.setV, z, closed_sh h1]
end Dat

/-! L16 -/
set_option linter.all false
set_option maxRecDepth 100000
namespace Dat.K16
open PySem PySem.Spec L2 PyProof.Rows Dat
def top (i : Nat) : Stmt := PySem.Challenge.pw_realhall_k16_rows_of_parts.main.body.getD i (.Pass ⟨0, 0, 0, 0⟩)
def fnsT0 : List (Str × List Str) := [("shared", ["a", "b"]), ("made", ["top", "bottom"]), ("add", ["a", "b"]), ("less", ["a", "b"]), ("times", ["a", "b"]), ("over", ["a", "b"]), ("turned", ["a"]), ("cut", ["row", "many"]), ("plus_row", ["p", "q"]), ("minus_row", ["p", "q"]), ("scaled_row", ["p", "a"]), ("product_row", ["p", "q"]), ("back_row", ["p"]), ("slope_row", ["p"]), ("sums_row", ["p", "start"]), ("put_row", ["p", "q"]), ("turned_row", ["p"]), ("exp_row", ["p"]), ("log_row", ["p"]), ("power_row", ["p", "a"]), ("root_row", ["p"]), ("of_quotient", ["p", "q", "many"]), ("_law_dice", ["cell"]), ("_law_roll", ["dice", "many"]), ("_law_rounds", ["script", "most"])]
def fnsT1 : List (Str × List Str) := [("_law_told", ["what"]), ("_law_gcd", ["a", "b"]), ("_law_part", ["dice"]), ("_law_inner", ["p", "q", "one", "line"]), ("_law_powers", ["dice", "p"]), ("law", ["script"])]
def fnsT : List (Str × List Str) := fnsT0 ++ fnsT1
def toldT : List (Nat × List (Str × Str)) := [(25, [("BadNumber", "number"), ("BadTerm", "term"), ("NoWay", "no way"), ("TooLarge", "large")])]
def exsT : List Str := ["RealFault", "BadNumber", "BadTerm", "NoWay", "TooLarge"]
def subsT0 : List ((Str × Str) × Bool) := [(("RealFault", "BadNumber"), false), (("RealFault", "BadTerm"), false), (("RealFault", "NoWay"), false), (("RealFault", "TooLarge"), false), (("BadNumber", "BadNumber"), true), (("BadNumber", "BadTerm"), false), (("BadNumber", "NoWay"), false), (("BadNumber", "TooLarge"), false), (("BadTerm", "BadNumber"), false), (("BadTerm", "BadTerm"), true), (("BadTerm", "NoWay"), false), (("BadTerm", "TooLarge"), false), (("NoWay", "BadNumber"), false), (("NoWay", "BadTerm"), false), (("NoWay", "NoWay"), true), (("NoWay", "TooLarge"), false), (("TooLarge", "BadNumber"), false), (("TooLarge", "BadTerm"), false), (("TooLarge", "NoWay"), false), (("TooLarge", "TooLarge"), true)]
def subsT : List ((Str × Str) × Bool) := subsT0
def glosT : List (Str × D) := []
def ir_shared : List IS := [(.whl (.cmp .NotEq (.var 1) (.con (.int 0))) [(.asg (.tup [(.var 0), (.var 1)]) (.tup [(.var 1), (.bin .Mod (.var 0) (.var 1))]))]), (.ret (.blt .abs [(.var 0)]))]
def d_shared : DefI := ⟨"shared", ["a", "b"], defArgs (top 7), defBody (top 7), defScope (top 7), ["a", "b"], false, some ir_shared⟩
def ir_made : List IS := [(.ifS (.cmp .Eq (.var 1) (.con (.int 0))) [(.rais "BadNumber")] []), (.ifS (.cmp .Lt (.var 1) (.con (.int 0))) [(.asg (.tup [(.var 0), (.var 1)]) (.tup [(.neg (.var 0)), (.neg (.var 1))]))] []), (.asg (.var 2) (.call 0 [(.var 0), (.var 1)])), (.ret (.tup [(.bin .FloorDiv (.var 0) (.var 2)), (.bin .FloorDiv (.var 1) (.var 2))]))]
def d_made : DefI := ⟨"made", ["top", "bottom"], defArgs (top 8), defBody (top 8), defScope (top 8), ["top", "bottom", "both"], false, some ir_made⟩
def ir_add : List IS := [(.ret (.call 1 [(.bin .Add (.bin .Mult (.idx (.var 0) (.con (.int 0))) (.idx (.var 1) (.con (.int 1)))) (.bin .Mult (.idx (.var 1) (.con (.int 0))) (.idx (.var 0) (.con (.int 1))))), (.bin .Mult (.idx (.var 0) (.con (.int 1))) (.idx (.var 1) (.con (.int 1))))]))]
def d_add : DefI := ⟨"add", ["a", "b"], defArgs (top 9), defBody (top 9), defScope (top 9), ["a", "b"], false, some ir_add⟩
def ir_less : List IS := [(.ret (.call 1 [(.bin .Sub (.bin .Mult (.idx (.var 0) (.con (.int 0))) (.idx (.var 1) (.con (.int 1)))) (.bin .Mult (.idx (.var 1) (.con (.int 0))) (.idx (.var 0) (.con (.int 1))))), (.bin .Mult (.idx (.var 0) (.con (.int 1))) (.idx (.var 1) (.con (.int 1))))]))]
def d_less : DefI := ⟨"less", ["a", "b"], defArgs (top 10), defBody (top 10), defScope (top 10), ["a", "b"], false, some ir_less⟩
def ir_times : List IS := [(.ret (.call 1 [(.bin .Mult (.idx (.var 0) (.con (.int 0))) (.idx (.var 1) (.con (.int 0)))), (.bin .Mult (.idx (.var 0) (.con (.int 1))) (.idx (.var 1) (.con (.int 1))))]))]
def d_times : DefI := ⟨"times", ["a", "b"], defArgs (top 11), defBody (top 11), defScope (top 11), ["a", "b"], false, some ir_times⟩
def ir_over : List IS := [(.ret (.call 1 [(.bin .Mult (.idx (.var 0) (.con (.int 0))) (.idx (.var 1) (.con (.int 1)))), (.bin .Mult (.idx (.var 0) (.con (.int 1))) (.idx (.var 1) (.con (.int 0))))]))]
def d_over : DefI := ⟨"over", ["a", "b"], defArgs (top 12), defBody (top 12), defScope (top 12), ["a", "b"], false, some ir_over⟩
def ir_turned : List IS := [(.ret (.tup [(.neg (.idx (.var 0) (.con (.int 0)))), (.idx (.var 0) (.con (.int 1)))]))]
def d_turned : DefI := ⟨"turned", ["a"], defArgs (top 13), defBody (top 13), defScope (top 13), ["a"], false, some ir_turned⟩
def ir_cut : List IS := [(.ret (.blt .tuple [(.comp (.var 2) (.rng1 [(.var 1)]) (.con (.bl true)) (.ifE (.cmp .Lt (.var 2) (.blt .len [(.var 0)])) (.idx (.var 0) (.var 2)) (.tup [(.con (.int 0)), (.con (.int 1))])) [2])]))]
def d_cut : DefI := ⟨"cut", ["row", "many"], defArgs (top 15), defBody (top 15), defScope (top 15), ["row", "many", "k"], false, some ir_cut⟩
def ir_plus_row : List IS := [(.ret (.blt .tuple [(.comp (.tup [(.var 2), (.var 3)]) (.zip [(.var 0), (.var 1)]) (.con (.bl true)) (.call 2 [(.var 2), (.var 3)]) [2, 3])]))]
def d_plus_row : DefI := ⟨"plus_row", ["p", "q"], defArgs (top 16), defBody (top 16), defScope (top 16), ["p", "q", "a", "b"], false, some ir_plus_row⟩
def ir_minus_row : List IS := [(.ret (.blt .tuple [(.comp (.tup [(.var 2), (.var 3)]) (.zip [(.var 0), (.var 1)]) (.con (.bl true)) (.call 3 [(.var 2), (.var 3)]) [2, 3])]))]
def d_minus_row : DefI := ⟨"minus_row", ["p", "q"], defArgs (top 17), defBody (top 17), defScope (top 17), ["p", "q", "a", "b"], false, some ir_minus_row⟩
def ir_scaled_row : List IS := [(.ret (.blt .tuple [(.comp (.var 2) (.seq (.var 0)) (.con (.bl true)) (.call 4 [(.var 2), (.var 1)]) [2])]))]
def d_scaled_row : DefI := ⟨"scaled_row", ["p", "a"], defArgs (top 18), defBody (top 18), defScope (top 18), ["p", "a", "one"], false, some ir_scaled_row⟩
def ir_product_row : List IS := [(.asg (.var 2) (.blt .len [(.var 0)])), (.asg (.var 3) (.lst [])), (.forS (.var 4) (.rng1 [(.var 2)]) [(.asg (.var 5) (.tup [(.con (.int 0)), (.con (.int 1))])), (.forS (.var 6) (.rng1 [(.bin .Add (.var 4) (.con (.int 1)))]) [(.ifS (.andE (.cmp .NotEq (.idx (.idx (.var 0) (.var 6)) (.con (.int 0))) (.con (.int 0))) (.cmp .NotEq (.idx (.idx (.var 1) (.bin .Sub (.var 4) (.var 6))) (.con (.int 0))) (.con (.int 0)))) [(.asg (.var 5) (.call 2 [(.var 5), (.call 4 [(.idx (.var 0) (.var 6)), (.idx (.var 1) (.bin .Sub (.var 4) (.var 6)))])]))] [])]), (.expr (.mth .append (.var 3) [(.var 5)]))]), (.ret (.blt .tuple [(.var 3)]))]
def d_product_row : DefI := ⟨"product_row", ["p", "q"], defArgs (top 19), defBody (top 19), defScope (top 19), ["p", "q", "many", "found", "k", "total", "j"], false, some ir_product_row⟩
def ir_back_row : List IS := [(.ifS (.orE (.cmp .Eq (.var 0) (.tup [])) (.cmp .Eq (.idx (.idx (.var 0) (.con (.int 0))) (.con (.int 0))) (.con (.int 0)))) [(.rais "NoWay")] []), (.asg (.var 1) (.lst [])), (.forS (.var 2) (.rng1 [(.blt .len [(.var 0)])]) [(.asg (.var 3) (.tup [(.blt .int [(.cmp .Eq (.var 2) (.con (.int 0)))]), (.con (.int 1))])), (.forS (.var 4) (.rng [(.con (.int 1)), (.bin .Add (.var 2) (.con (.int 1)))]) [(.asg (.var 3) (.call 3 [(.var 3), (.call 4 [(.idx (.var 0) (.var 4)), (.idx (.var 1) (.bin .Sub (.var 2) (.var 4)))])]))]), (.expr (.mth .append (.var 1) [(.call 5 [(.var 3), (.idx (.var 0) (.con (.int 0)))])]))]), (.ret (.blt .tuple [(.var 1)]))]
def d_back_row : DefI := ⟨"back_row", ["p"], defArgs (top 20), defBody (top 20), defScope (top 20), ["p", "found", "k", "total", "j"], false, some ir_back_row⟩
def ir_slope_row : List IS := [(.ret (.blt .tuple [(.slc true false (.comp (.tup [(.var 1), (.var 2)]) (.enm (.var 0)) (.con (.bl true)) (.call 4 [(.var 2), (.tup [(.var 1), (.con (.int 1))])]) [1, 2]) (.con (.int 1)) .nop)]))]
def d_slope_row : DefI := ⟨"slope_row", ["p"], defArgs (top 21), defBody (top 21), defScope (top 21), ["p", "k", "one"], false, some ir_slope_row⟩
def ir_sums_row : List IS := [(.ret (.bin .Add (.tup [(.var 1)]) (.blt .tuple [(.comp (.tup [(.var 2), (.var 3)]) (.enm (.var 0)) (.con (.bl true)) (.call 5 [(.var 3), (.tup [(.bin .Add (.var 2) (.con (.int 1))), (.con (.int 1))])]) [2, 3])])))]
def d_sums_row : DefI := ⟨"sums_row", ["p", "start"], defArgs (top 22), defBody (top 22), defScope (top 22), ["p", "start", "k", "one"], false, some ir_sums_row⟩
def ir_put_row : List IS := [(.ifS (.orE (.cmp .Eq (.var 1) (.tup [])) (.cmp .NotEq (.idx (.idx (.var 1) (.con (.int 0))) (.con (.int 0))) (.con (.int 0)))) [(.rais "NoWay")] []), (.asg (.var 2) (.call 7 [(.tup []), (.blt .len [(.var 0)])])), (.forS (.var 3) (.rev (.var 0)) [(.asg (.var 2) (.call 11 [(.var 2), (.call 7 [(.var 1), (.blt .len [(.var 0)])])])), (.asg (.var 2) (.bin .Add (.tup [(.call 2 [(.idx (.var 2) (.con (.int 0))), (.var 3)])]) (.slc true false (.var 2) (.con (.int 1)) .nop)))]), (.ret (.var 2))]
def d_put_row : DefI := ⟨"put_row", ["p", "q"], defArgs (top 23), defBody (top 23), defScope (top 23), ["p", "q", "found", "one"], false, some ir_put_row⟩
def ir_turned_row : List IS := [(.asg (.var 1) (.blt .len [(.var 0)])), (.ifS (.orE (.cmp .Lt (.var 1) (.con (.int 2))) (.orE (.cmp .NotEq (.idx (.idx (.var 0) (.con (.int 0))) (.con (.int 0))) (.con (.int 0))) (.cmp .Eq (.idx (.idx (.var 0) (.con (.int 1))) (.con (.int 0))) (.con (.int 0))))) [(.rais "NoWay")] []), (.asg (.var 2) (.lst [(.tup [(.con (.int 0)), (.con (.int 1))]), (.call 5 [(.tup [(.con (.int 1)), (.con (.int 1))]), (.idx (.var 0) (.con (.int 1)))])])), (.whl (.cmp .Lt (.blt .len [(.var 2)]) (.var 1)) [(.asg (.var 3) (.call 7 [(.blt .tuple [(.var 2)]), (.bin .Add (.blt .len [(.var 2)]) (.con (.int 1)))])), (.asg (.var 4) (.idx (.call 15 [(.call 7 [(.var 0), (.bin .Add (.blt .len [(.var 2)]) (.con (.int 1)))]), (.var 3)]) (.neg (.con (.int 1))))), (.expr (.mth .append (.var 2) [(.call 5 [(.call 6 [(.var 4)]), (.idx (.var 0) (.con (.int 1)))])]))]), (.ret (.blt .tuple [(.var 2)]))]
def d_turned_row : DefI := ⟨"turned_row", ["p"], defArgs (top 24), defBody (top 24), defScope (top 24), ["p", "many", "found", "trial", "rest"], false, some ir_turned_row⟩
def ir_exp_row : List IS := [(.ifS (.orE (.cmp .Eq (.var 0) (.tup [])) (.cmp .NotEq (.idx (.idx (.var 0) (.con (.int 0))) (.con (.int 0))) (.con (.int 0)))) [(.rais "NoWay")] []), (.asg (.var 1) (.lst [(.tup [(.con (.int 1)), (.con (.int 1))])])), (.forS (.var 2) (.rng [(.con (.int 1)), (.blt .len [(.var 0)])]) [(.asg (.var 3) (.tup [(.con (.int 0)), (.con (.int 1))])), (.forS (.var 4) (.rng [(.con (.int 1)), (.bin .Add (.var 2) (.con (.int 1)))]) [(.asg (.var 3) (.call 2 [(.var 3), (.call 4 [(.call 4 [(.tup [(.var 4), (.con (.int 1))]), (.idx (.var 0) (.var 4))]), (.idx (.var 1) (.bin .Sub (.var 2) (.var 4)))])]))]), (.expr (.mth .append (.var 1) [(.call 5 [(.var 3), (.tup [(.var 2), (.con (.int 1))])])]))]), (.ret (.blt .tuple [(.var 1)]))]
def d_exp_row : DefI := ⟨"exp_row", ["p"], defArgs (top 25), defBody (top 25), defScope (top 25), ["p", "found", "k", "total", "j"], false, some ir_exp_row⟩
def ir_log_row : List IS := [(.ifS (.orE (.cmp .Eq (.var 0) (.tup [])) (.cmp .NotEq (.idx (.var 0) (.con (.int 0))) (.tup [(.con (.int 1)), (.con (.int 1))]))) [(.rais "NoWay")] []), (.asg (.var 1) (.call 11 [(.call 7 [(.call 13 [(.var 0)]), (.blt .len [(.var 0)])]), (.call 12 [(.var 0)])])), (.ret (.call 14 [(.slc false true (.var 1) .nop (.bin .Sub (.blt .len [(.var 0)]) (.con (.int 1)))), (.tup [(.con (.int 0)), (.con (.int 1))])]))]
def d_log_row : DefI := ⟨"log_row", ["p"], defArgs (top 26), defBody (top 26), defScope (top 26), ["p", "inner"], false, some ir_log_row⟩
def ir_power_row : List IS := [(.ret (.call 17 [(.call 10 [(.call 18 [(.var 0)]), (.var 1)])]))]
def d_power_row : DefI := ⟨"power_row", ["p", "a"], defArgs (top 27), defBody (top 27), defScope (top 27), ["p", "a"], false, some ir_power_row⟩
def ir_root_row : List IS := [(.ret (.call 19 [(.var 0), (.tup [(.con (.int 1)), (.con (.int 2))])]))]
def d_root_row : DefI := ⟨"root_row", ["p"], defArgs (top 28), defBody (top 28), defScope (top 28), ["p"], false, some ir_root_row⟩
def ir_of_quotient : List IS := [(.ret (.call 11 [(.call 7 [(.var 0), (.var 2)]), (.call 12 [(.call 7 [(.var 1), (.var 2)])])]))]
def d_of_quotient : DefI := ⟨"of_quotient", ["p", "q", "many"], defArgs (top 29), defBody (top 29), defScope (top 29), ["p", "q", "many"], false, some ir_of_quotient⟩
def ir__law_dice : List IS := [(.ifS (.cmp2 .Lt .Lt (.bin .Sub (.con (.int 0)) (.con (.int 10))) (.var 0) (.con (.int 10))) [(.ret (.lst [(.blt .abs [(.var 0)]), (.con (.int 0)), (.con (.int 2))]))] []), (.ret (.lst [(.var 0), (.bin .Add (.con (.int 1)) (.bin .Mod (.blt .int [(.var 0)]) (.con (.int 1009)))), (.blt .int [(.cmp .GtE (.var 0) (.bin .Pow (.con (.int 10)) (.con (.int 18))))])]))]
def d__law_dice : DefI := ⟨"_law_dice", ["cell"], defArgs (top 31), defBody (top 31), defScope (top 31), ["cell"], false, some ir__law_dice⟩
def ir__law_roll : List IS := [(.ifS (.orE (.cmp .Eq (.idx (.var 0) (.con (.int 2))) (.con (.int 2))) (.andE (.cmp .Eq (.idx (.var 0) (.con (.int 2))) (.con (.int 1))) (.cmp .Gt (.idx (.var 0) (.con (.int 0))) (.con (.int 0))))) [(.asg (.var 2) (.bin .Mod (.blt .int [(.idx (.var 0) (.con (.int 0)))]) (.var 1))), (.setI (.var 0) (.con (.int 0)) (.bin .FloorDiv (.idx (.var 0) (.con (.int 0))) (.var 1))), (.ret (.var 2))] []), (.setI (.var 0) (.con (.int 2)) (.con (.int 0))), (.setI (.var 0) (.con (.int 0)) (.bin .Mod (.blt .int [(.bin .Add (.bin .Add (.bin .Mult (.idx (.var 0) (.con (.int 0))) (.con (.int 48271))) (.bin .Mult (.idx (.var 0) (.con (.int 1))) (.con (.int 69621)))) (.con (.int 11)))]) (.con (.int 2147483647)))), (.setI (.var 0) (.con (.int 1)) (.bin .Add (.idx (.var 0) (.con (.int 1))) (.con (.int 1)))), (.ret (.bin .Mod (.blt .int [(.bin .Add (.bin .FloorDiv (.idx (.var 0) (.con (.int 0))) (.con (.int 7))) (.idx (.var 0) (.con (.int 0))))]) (.var 1)))]
def d__law_roll : DefI := ⟨"_law_roll", ["dice", "many"], defArgs (top 32), defBody (top 32), defScope (top 32), ["dice", "many", "found"], false, some ir__law_roll⟩
def ir__law_rounds : List IS := [(.asg (.var 2) (.slc false true (.var 0) .nop (.var 1))), (.ifS (.cmp .Eq (.var 2) (.lst [])) [(.asg (.var 2) (.lst [(.con (.int 0))]))] []), (.ret (.comp (.var 3) (.seq (.var 2)) (.con (.bl true)) (.call 22 [(.var 3)]) [3]))]
def d__law_rounds : DefI := ⟨"_law_rounds", ["script", "most"], defArgs (top 33), defBody (top 33), defScope (top 33), ["script", "most", "cells", "cell"], false, some ir__law_rounds⟩
def d__law_told : DefI := ⟨"_law_told", ["what"], defArgs (top 34), defBody (top 34), defScope (top 34), ["what"], false, none⟩
def ir__law_gcd : List IS := [(.whl (.cmp .NotEq (.var 1) (.con (.int 0))) [(.asg (.tup [(.var 0), (.var 1)]) (.tup [(.var 1), (.bin .Mod (.var 0) (.var 1))]))]), (.ret (.blt .abs [(.var 0)]))]
def d__law_gcd : DefI := ⟨"_law_gcd", ["a", "b"], defArgs (top 35), defBody (top 35), defScope (top 35), ["a", "b"], false, some ir__law_gcd⟩
def ir__law_part : List IS := [(.asg (.tup [(.var 1), (.var 2)]) (.tup [(.bin .Sub (.call 23 [(.var 0), (.con (.int 61))]) (.con (.int 30))), (.bin .Add (.con (.int 1)) (.call 23 [(.var 0), (.con (.int 12))]))])), (.asg (.var 3) (.call 26 [(.var 1), (.var 2)])), (.ret (.tup [(.bin .FloorDiv (.var 1) (.var 3)), (.bin .FloorDiv (.var 2) (.var 3))]))]
def d__law_part : DefI := ⟨"_law_part", ["dice"], defArgs (top 36), defBody (top 36), defScope (top 36), ["dice", "top", "bottom", "both"], false, some ir__law_part⟩
def ir__law_inner : List IS := [(.asg (.var 4) (.bin .Add (.tup [(.tup [(.con (.int 0)), (.con (.int 1))])]) (.slc true false (.var 1) (.con (.int 1)) .nop))), (.asg (.tup [(.var 5), (.var 6)]) (.tup [(.call 7 [(.tup []), (.con (.int 6))]), (.var 2)])), (.forS (.var 7) (.rng1 [(.con (.int 6))]) [(.asg (.tup [(.var 5), (.var 6)]) (.tup [(.call 8 [(.var 5), (.call 10 [(.var 6), (.idx (.var 0) (.var 7))])]), (.call 11 [(.var 6), (.var 4)])]))]), (.ifS (.cmp .NotEq (.call 15 [(.var 0), (.var 4)]) (.var 5)) [(.ret (.con (.bl false)))] []), (.ifS (.andE (.cmp .NotEq (.idx (.idx (.var 4) (.con (.int 1))) (.con (.int 0))) (.con (.int 0))) (.orE (.cmp .NotEq (.call 15 [(.var 4), (.call 16 [(.var 4)])]) (.var 3)) (.cmp .NotEq (.call 15 [(.call 16 [(.var 4)]), (.var 4)]) (.var 3)))) [(.ret (.con (.bl false)))] []), (.asg (.var 8) (.call 17 [(.var 4)])), (.ifS (.orE (.cmp .NotEq (.call 13 [(.var 8)]) (.slc false true (.call 11 [(.call 7 [(.call 13 [(.var 4)]), (.con (.int 6))]), (.var 8)]) .nop (.con (.int 5)))) (.cmp .NotEq (.call 18 [(.var 8)]) (.var 4))) [(.ret (.con (.bl false)))] []), (.ret (.con (.bl true)))]
def d__law_inner : DefI := ⟨"_law_inner", ["p", "q", "one", "line"], defArgs (top 37), defBody (top 37), defScope (top 37), ["p", "q", "one", "line", "inner", "total", "power_there", "k", "own"], false, some ir__law_inner⟩
def ir__law_powers : List IS := [(.asg (.var 2) (.bin .Add (.tup [(.tup [(.con (.int 1)), (.con (.int 1))])]) (.slc true false (.var 1) (.con (.int 1)) .nop))), (.asg (.tup [(.var 3), (.var 4)]) (.tup [(.call 27 [(.var 0)]), (.call 27 [(.var 0)])])), (.ifS (.cmp .NotEq (.call 17 [(.call 18 [(.var 2)])]) (.var 2)) [(.ret (.con (.bl false)))] []), (.ifS (.cmp .NotEq (.call 11 [(.call 19 [(.var 2), (.var 3)]), (.call 19 [(.var 2), (.var 4)])]) (.call 19 [(.var 2), (.call 2 [(.var 3), (.var 4)])])) [(.ret (.con (.bl false)))] []), (.ifS (.cmp .NotEq (.call 11 [(.call 20 [(.var 2)]), (.call 20 [(.var 2)])]) (.var 2)) [(.ret (.con (.bl false)))] []), (.ifS (.cmp .NotEq (.call 19 [(.var 2), (.tup [(.con (.int 2)), (.con (.int 1))])]) (.call 11 [(.var 2), (.var 2)])) [(.ret (.con (.bl false)))] []), (.ret (.con (.bl true)))]
def d__law_powers : DefI := ⟨"_law_powers", ["dice", "p"], defArgs (top 38), defBody (top 38), defScope (top 38), ["dice", "p", "start", "a", "b"], false, some ir__law_powers⟩
def ir_law : List IS := [(.forS (.var 1) (.seq (.call 24 [(.var 0), (.con (.int 3))])) [(.asg (.tup [(.var 2), (.var 3)]) (.comp (.var 5) (.rng1 [(.con (.int 2))]) (.con (.bl true)) (.blt .tuple [(.comp (.var 4) (.rng1 [(.con (.int 6))]) (.con (.bl true)) (.call 27 [(.var 1)]) [4])]) [5])), (.asg (.tup [(.var 6), (.var 7)]) (.tup [(.call 7 [(.tup [(.tup [(.con (.int 1)), (.con (.int 1))])]), (.con (.int 6))]), (.call 7 [(.tup [(.tup [(.con (.int 0)), (.con (.int 1))]), (.tup [(.con (.int 1)), (.con (.int 1))])]), (.con (.int 6))])])), (.asg (.var 8) (.lst [])), (.forS (.var 4) (.rng1 [(.con (.int 6))]) [(.asg (.var 9) (.tup [(.con (.int 0)), (.con (.int 1))])), (.forS (.var 10) (.rng1 [(.bin .Add (.var 4) (.con (.int 1)))]) [(.asg (.var 9) (.call 2 [(.var 9), (.call 4 [(.idx (.var 2) (.var 10)), (.idx (.var 3) (.bin .Sub (.var 4) (.var 10)))])]))]), (.expr (.mth .append (.var 8) [(.var 9)]))]), (.ifS (.orE (.cmp .NotEq (.blt .list [(.call 11 [(.var 2), (.var 3)])]) (.var 8)) (.cmp .NotEq (.call 8 [(.var 2), (.var 3)]) (.blt .tuple [(.comp (.var 4) (.rng1 [(.con (.int 6))]) (.con (.bl true)) (.call 2 [(.idx (.var 2) (.var 4)), (.idx (.var 3) (.var 4))]) [4])]))) [(.ret (.con (.bl false)))] []), (.ifS (.orE (.cmp .NotEq (.call 9 [(.call 8 [(.var 2), (.var 3)]), (.var 3)]) (.var 2)) (.cmp .NotEq (.call 10 [(.var 2), (.tup [(.con (.int 0)), (.con (.int 1))])]) (.call 7 [(.tup []), (.con (.int 6))]))) [(.ret (.con (.bl false)))] []), (.ifS (.cmp .Eq (.idx (.idx (.var 2) (.con (.int 0))) (.con (.int 0))) (.con (.int 0))) [(.ifS (.cmp .NotEq (.told 25 (.call 12 [(.var 2)])) (.con (.str "no way"))) [(.ret (.con (.bl false)))] [])] [(.ifS (.orE (.cmp .NotEq (.call 11 [(.var 2), (.call 12 [(.var 2)])]) (.var 6)) (.cmp .NotEq (.call 21 [(.tup [(.idx (.var 2) (.con (.int 0)))]), (.var 2), (.con (.int 6))]) (.call 10 [(.call 12 [(.var 2)]), (.idx (.var 2) (.con (.int 0)))]))) [(.ret (.con (.bl false)))] [])]), (.ifS (.orE (.cmp .NotEq (.call 13 [(.call 14 [(.var 2), (.tup [(.con (.int 5)), (.con (.int 1))])])]) (.var 2)) (.cmp .NotEq (.call 14 [(.call 13 [(.var 2)]), (.idx (.var 2) (.con (.int 0)))]) (.var 2))) [(.ret (.con (.bl false)))] []), (.ifS (.notE (.call 28 [(.var 2), (.var 3), (.var 6), (.var 7)])) [(.ret (.con (.bl false)))] []), (.ifS (.notE (.call 29 [(.var 1), (.var 2)])) [(.ret (.con (.bl false)))] []), (.ifS (.cmp .NotEq (.told 25 (.call 15 [(.var 2), (.var 6)])) (.con (.str "no way"))) [(.ret (.con (.bl false)))] []), (.ifS (.cmp .NotEq (.told 25 (.call 17 [(.var 6)])) (.con (.str "no way"))) [(.ret (.con (.bl false)))] []), (.ifS (.cmp .NotEq (.told 25 (.call 18 [(.var 7)])) (.con (.str "no way"))) [(.ret (.con (.bl false)))] []), (.ifS (.cmp .NotEq (.told 25 (.call 16 [(.var 6)])) (.con (.str "no way"))) [(.ret (.con (.bl false)))] []), (.ifS (.cmp .NotEq (.call 3 [(.idx (.var 2) (.con (.int 0))), (.idx (.var 2) (.con (.int 0)))]) (.tup [(.con (.int 0)), (.con (.int 1))])) [(.ret (.con (.bl false)))] [])]), (.ret (.con (.bl true)))]
def d_law : DefI := ⟨"law", ["script"], defArgs (top 39), defBody (top 39), defScope (top 39), ["script", "dice", "p", "q", "k", "n", "one", "line", "due", "total", "j"], true, some ir_law⟩
def LL : LawI := ⟨[d_shared, d_made, d_add, d_less, d_times, d_over, d_turned, d_cut, d_plus_row, d_minus_row, d_scaled_row, d_product_row, d_back_row, d_slope_row, d_sums_row, d_put_row, d_turned_row, d_exp_row, d_log_row, d_power_row, d_root_row, d_of_quotient, d__law_dice, d__law_roll, d__law_rounds, d__law_told, d__law_gcd, d__law_part, d__law_inner, d__law_powers, d_law], toldT, glosT, exsT, subsT, 2 ^ 4096⟩
def allB : AllB LL.defs :=
  .cons (fun _ _ _ _ _ _ us hl => match us, hl with | [_, _], _ => rfl) <|
  .cons (fun _ _ _ _ _ _ us hl => match us, hl with | [_, _], _ => rfl) <|
  .cons (fun _ _ _ _ _ _ us hl => match us, hl with | [_, _], _ => rfl) <|
  .cons (fun _ _ _ _ _ _ us hl => match us, hl with | [_, _], _ => rfl) <|
  .cons (fun _ _ _ _ _ _ us hl => match us, hl with | [_, _], _ => rfl) <|
  .cons (fun _ _ _ _ _ _ us hl => match us, hl with | [_, _], _ => rfl) <|
  .cons (fun _ _ _ _ _ _ us hl => match us, hl with | [_], _ => rfl) <|
  .cons (fun _ _ _ _ _ _ us hl => match us, hl with | [_, _], _ => rfl) <|
  .cons (fun _ _ _ _ _ _ us hl => match us, hl with | [_, _], _ => rfl) <|
  .cons (fun _ _ _ _ _ _ us hl => match us, hl with | [_, _], _ => rfl) <|
  .cons (fun _ _ _ _ _ _ us hl => match us, hl with | [_, _], _ => rfl) <|
  .cons (fun _ _ _ _ _ _ us hl => match us, hl with | [_, _], _ => rfl) <|
  .cons (fun _ _ _ _ _ _ us hl => match us, hl with | [_], _ => rfl) <|
  .cons (fun _ _ _ _ _ _ us hl => match us, hl with | [_], _ => rfl) <|
  .cons (fun _ _ _ _ _ _ us hl => match us, hl with | [_, _], _ => rfl) <|
  .cons (fun _ _ _ _ _ _ us hl => match us, hl with | [_, _], _ => rfl) <|
  .cons (fun _ _ _ _ _ _ us hl => match us, hl with | [_], _ => rfl) <|
  .cons (fun _ _ _ _ _ _ us hl => match us, hl with | [_], _ => rfl) <|
  .cons (fun _ _ _ _ _ _ us hl => match us, hl with | [_], _ => rfl) <|
  .cons (fun _ _ _ _ _ _ us hl => match us, hl with | [_, _], _ => rfl) <|
  .cons (fun _ _ _ _ _ _ us hl => match us, hl with | [_], _ => rfl) <|
  .cons (fun _ _ _ _ _ _ us hl => match us, hl with | [_, _, _], _ => rfl) <|
  .cons (fun _ _ _ _ _ _ us hl => match us, hl with | [_], _ => rfl) <|
  .cons (fun _ _ _ _ _ _ us hl => match us, hl with | [_, _], _ => rfl) <|
  .cons (fun _ _ _ _ _ _ us hl => match us, hl with | [_, _], _ => rfl) <|
  .cons (fun _ _ _ _ _ _ us hl => match us, hl with | [_], _ => rfl) <|
  .cons (fun _ _ _ _ _ _ us hl => match us, hl with | [_, _], _ => rfl) <|
  .cons (fun _ _ _ _ _ _ us hl => match us, hl with | [_], _ => rfl) <|
  .cons (fun _ _ _ _ _ _ us hl => match us, hl with | [_, _, _, _], _ => rfl) <|
  .cons (fun _ _ _ _ _ _ us hl => match us, hl with | [_, _], _ => rfl) <|
  .cons (fun _ _ _ _ _ _ us hl => match us, hl with | [_], _ => rfl) <|
  .nil
def nLaw : Nat := 30
-- top index of law: 39
abbrev i_shared : Nat := 0
abbrev i_made : Nat := 1
abbrev i_add : Nat := 2
abbrev i_less : Nat := 3
abbrev i_times : Nat := 4
abbrev i_over : Nat := 5
abbrev i_turned : Nat := 6
abbrev i_cut : Nat := 7
abbrev i_plus_row : Nat := 8
abbrev i_minus_row : Nat := 9
abbrev i_scaled_row : Nat := 10
abbrev i_product_row : Nat := 11
abbrev i_back_row : Nat := 12
abbrev i_slope_row : Nat := 13
abbrev i_sums_row : Nat := 14
abbrev i_put_row : Nat := 15
abbrev i_turned_row : Nat := 16
abbrev i_exp_row : Nat := 17
abbrev i_log_row : Nat := 18
abbrev i_power_row : Nat := 19
abbrev i_root_row : Nat := 20
abbrev i_of_quotient : Nat := 21
abbrev i__law_dice : Nat := 22
abbrev i__law_roll : Nat := 23
abbrev i__law_rounds : Nat := 24
abbrev i__law_told : Nat := 25
abbrev i__law_gcd : Nat := 26
abbrev i__law_part : Nat := 27
abbrev i__law_inner : Nat := 28
abbrev i__law_powers : Nat := 29
abbrev i_law : Nat := 30
end Dat.K16

/-! CF -/
set_option linter.all false
set_option maxRecDepth 100000
/-! CF: whole parts of a part, one behind another. -/
namespace Dat
def cfR : Nat → Rat → List Int
  | 0, _ => []
  | n + 1, v => v.floor :: (if v - v.floor = 0 then [] else cfR n (1 / (v - v.floor)))
def Done : Rat → Nat → Prop
  | _, 0 => False
  | v, n + 1 => v - v.floor = 0 ∨ Done (1 / (v - v.floor)) n
def cfv : List Int → Rat
  | [] => 0
  | [k] => k
  | k :: l => k + 1 / cfv l
theorem cfv_cons {k : Int} {l : List Int} (h : l ≠ []) : cfv (k :: l) = k + 1 / cfv l := by
  cases l with
  | nil => exact absurd rfl h
  | cons a l => rfl
theorem fl_le (v : Rat) : (v.floor : Rat) ≤ v := Rat.floor_le v
theorem fl_lt (v : Rat) : v < v.floor + 1 := by
  have := Rat.lt_floor_add_one v
  rw [Rat.intCast_add] at this
  exact this
theorem fl_eq {v : Rat} {k : Int} (h1 : (k : Rat) ≤ v) (h2 : v < k + 1) : v.floor = k := by
  have a := Rat.le_floor_iff.mpr h1
  have b : v.floor < k + 1 := Rat.floor_lt_iff.mpr (by rw [Rat.intCast_add]; exact h2)
  omega
theorem fl_num (v : Rat) : v.num / (v.den : Int) = v.floor := (Rat.floor_def v).symm
theorem sub_fl (v : Rat) : (v - v.floor).num = v.num % v.den ∧ (v - v.floor).den = v.den := by
  have d0 : (v.den : Int) ≠ 0 := by have := v.den_nz; omega
  have e : v - (v.floor : Rat) = Rat.divInt (v.num % v.den) v.den := by
    have h1 : v = Rat.divInt v.num v.den := (Rat.num_divInt_den v).symm
    have h2 : (v.floor : Rat) = Rat.divInt v.floor 1 := by rw [Rat.divInt_eq_div]; grind
    rw [h2]
    conv => lhs; lhs; rw [h1]
    rw [Rat.divInt_sub_divInt _ _ d0 (by decide), Int.mul_one, Int.mul_one, Int.emod_def, fl_num, Int.mul_comm v.floor]
  have g : Int.gcd v.den (v.num % v.den) = 1 := by
    have h := v.reduced
    rw [Int.emod_def, show v.num - (v.den : Int) * (v.num / v.den) = v.num + v.den * (-(v.num / v.den)) by rw [Int.mul_neg, Int.sub_eq_add_neg], Int.gcd_add_mul_left_right]
    rw [Int.gcd_comm]
    exact h
  rw [e, Rat.num_divInt, Rat.den_divInt, if_neg d0, g]
  refine ⟨?_, by simp⟩
  have : (v.den : Int).sign = 1 := Int.sign_eq_one_of_pos (by omega)
  rw [this]; simp
theorem nx_num {v : Rat} (h : v - v.floor ≠ 0) : (1 / (v - v.floor)).num = v.den ∧ ((1 / (v - v.floor)).den : Int) = v.num % v.den := by
  obtain ⟨a, b⟩ := sub_fl v
  have d0 : (v.den : Int) ≠ 0 := by have := v.den_nz; omega
  have c : 0 < v.num % v.den := by
    have := Int.emod_nonneg v.num d0
    have : (v - v.floor).num ≠ 0 := fun z => h (Rat.num_eq_zero.mp z)
    omega
  rw [show 1 / (v - (v.floor : Rat)) = (v - (v.floor : Rat))⁻¹ by rw [Rat.div_def, Rat.one_mul], Rat.num_inv, Rat.den_inv, a, b, Int.sign_eq_one_of_pos c, if_neg (by omega)]
  exact ⟨by simp, by omega⟩
theorem done_mono : ∀ {n m : Nat} {v : Rat}, Done v n → n ≤ m → Done v m
  | 0, _, _, h, _ => absurd h (by simp [Done])
  | n + 1, 0, _, _, h => absurd h (by omega)
  | n + 1, m + 1, v, h, hm => by
    rcases h with h | h
    · exact .inl h
    · exact .inr (done_mono h (by omega))
theorem cf_take : ∀ {n : Nat} (t : Nat) {v : Rat}, Done v n → (cfR n v).take t = cfR t v
  | 0, _, _, h => absurd h (by simp [Done])
  | n + 1, 0, v, h => by simp [cfR]
  | n + 1, t + 1, v, h => by
    simp only [cfR, List.take_succ_cons]
    by_cases h0 : v - v.floor = 0
    · simp [h0]
    · rw [if_neg h0, if_neg h0]
      rcases h with h | h
      · exact absurd h h0
      · rw [cf_take t h]
theorem cf_take2 : ∀ (n t : Nat) (v : Rat), t ≤ n → (cfR n v).take t = cfR t v
  | n, 0, v, _ => by simp [cfR]
  | 0, t + 1, v, h => absurd h (by omega)
  | n + 1, t + 1, v, h => by
    simp only [cfR, List.take_succ_cons]
    split
    · simp
    · rw [cf_take2 n t _ (by omega)]
theorem cf_done : ∀ {n m : Nat} {v : Rat}, Done v n → n ≤ m → cfR m v = cfR n v := fun {n m v} h hm => by
  have e := cf_take2 m n v hm
  have e2 := cf_take m (done_mono h hm)
  have e3 := cf_take m h
  rw [← e3]
  apply List.take_of_length_le
  have : ∀ n v, (cfR n v).length ≤ n := by
    intro n
    induction n with
    | zero => intro v; simp [cfR]
    | succ n ih =>
      intro v
      simp only [cfR, List.length_cons]
      split
      · simp
      · have := ih (1 / (v - v.floor)); omega
  exact Nat.le_trans (this n v) hm
theorem cf_len : ∀ (n : Nat) (v : Rat), (cfR n v).length ≤ n
  | 0, v => by simp [cfR]
  | n + 1, v => by
    simp only [cfR, List.length_cons]
    split
    · simp
    · have := cf_len n (1 / (v - v.floor)); omega
theorem cf_ne {n : Nat} {v : Rat} (h : Done v n) : cfR n v ≠ [] := by
  cases n with
  | zero => exact absurd h (by simp [Done])
  | succ n => simp [cfR]
/-- turned back -/
theorem cf_val : ∀ {n : Nat} {v : Rat}, Done v n → cfv (cfR n v) = v
  | 0, _, h => absurd h (by simp [Done])
  | n + 1, v, h => by
    by_cases h0 : v - v.floor = 0
    · simp only [cfR, h0, if_true, cfv]
      grind
    · rcases h with h | h
      · exact absurd h h0
      · simp only [cfR, h0, if_false]
        rw [cfv_cons (cf_ne h), cf_val h]
        grind
/-- it ends soon -/
theorem cf_ends : ∀ (n : Nat) (v : Rat), v.den ≤ 2 ^ n → Done v (2 * n + 1) := by
  intro n
  induction n with
  | zero =>
    intro v h
    refine .inl ?_
    obtain ⟨a, b⟩ := sub_fl v
    have : v.den = 1 := by have := v.den_nz; simp at h; omega
    apply Rat.num_eq_zero.mp
    rw [a, this]; simp
  | succ n ih =>
    intro v h
    have e : 2 * (n + 1) + 1 = (2 * n + 1) + 1 + 1 := by omega
    rw [e]
    by_cases h0 : v - v.floor = 0
    · exact .inl h0
    · refine .inr ?_
      obtain ⟨a, b⟩ := nx_num h0
      generalize 1 / (v - (v.floor : Rat)) = w at *
      by_cases h1 : w - w.floor = 0
      · exact .inl h1
      · refine .inr (ih _ ?_)
        obtain ⟨c, d⟩ := nx_num h1
        have d0 : (0 : Int) < v.den := by have := v.den_nz; omega
        have w0 : (0 : Int) < w.den := by have := w.den_nz; omega
        have l1 := Int.emod_lt_of_pos v.num d0
        have l2 := Int.emod_lt_of_pos w.num w0
        have l3 := Int.mul_ediv_add_emod w.num w.den
        have l4 : 1 ≤ w.num / w.den := by
          rw [Int.le_ediv_iff_mul_le w0]
          omega
        have l5 : (w.den : Int) * 1 ≤ w.den * (w.num / w.den) := Int.mul_le_mul_of_nonneg_left l4 (by omega)
        have p : 2 ^ (n + 1) = 2 * 2 ^ n := by rw [Nat.pow_succ, Nat.mul_comm]
        rw [p] at h
        omega
/-- one whole part is read -/
theorem cf_step {n : Nat} {v w : Rat} {k : Int} (h1 : v = k + w) (h2 : 0 < w) (h3 : w < 1) : cfR (n + 1) v = k :: cfR n (1 / w) := by
  have e : v.floor = k := fl_eq (by grind) (by grind)
  have e2 : v - (k : Rat) = w := by grind
  simp only [cfR, e, e2]
  rw [if_neg (by grind)]
end Dat

/-! CF2 -/
set_option linter.all false
set_option maxRecDepth 100000
/-! CF2: turns of rows. -/
namespace Dat
theorem div_pos' {a b : Rat} (ha : 0 < a) (hb : 0 < b) : 0 < a / b := by
  rw [Rat.div_def]
  exact Rat.mul_pos ha (Rat.inv_pos.mpr hb)
theorem ipos {a : Int} (h : 0 < a) : (0 : Rat) < a := by
  have := Rat.intCast_lt_intCast.mpr h
  simpa using this
theorem inn {a : Int} (h : 0 ≤ a) : (0 : Rat) ≤ a := by
  have := Rat.intCast_le_intCast.mpr h
  simpa using this
theorem lin_pos {r s : Int} {x : Rat} (hr : 0 ≤ r) (hs : 0 ≤ s) (h : r ≠ 0 ∨ s ≠ 0) (hx : 0 < x) : (0 : Rat) < r * x + s := by
  have s0 := inn hs
  by_cases h1 : r = 0
  · have : 0 < s := by omega
    have := ipos this
    subst h1
    grind
  · have : 0 < r := by omega
    have := Rat.mul_pos (ipos this) hx
    grind
/-- one told -/
theorem told_step {n : Nat} {a b c d k : Int} {x : Rat} (hc : 0 < c) (hd : 0 < d) (hx : 0 < x) (h : a * d - b * c ≠ 0) (k1 : a / c = k) (k2 : b / d = k) :
    0 ≤ a - k * c ∧ a - k * c < c ∧ 0 ≤ b - k * d ∧ b - k * d < d ∧ c * (b - k * d) - d * (a - k * c) ≠ 0 ∧ cfR (n + 1) ((a * x + b) / (c * x + d)) = k :: cfR n ((c * x + d) / (((a - k * c : Int) : Rat) * x + ((b - k * d : Int) : Rat))) := by
  have a1 := Int.mul_ediv_add_emod a c
  have a2 := Int.emod_nonneg a (by omega : c ≠ 0)
  have a3 := Int.emod_lt_of_pos a hc
  have b1 := Int.mul_ediv_add_emod b d
  have b2 := Int.emod_nonneg b (by omega : d ≠ 0)
  have b3 := Int.emod_lt_of_pos b hd
  rw [k1] at a1
  rw [k2] at b1
  generalize a % c = r at *
  generalize b % d = s at *
  have er : a - k * c = r := by rw [Int.mul_comm k c]; omega
  have es : b - k * d = s := by rw [Int.mul_comm k d]; omega
  rw [er, es]
  have det : c * s - d * r ≠ 0 := by
    intro z
    apply h
    have : a * d - b * c = (c * k + r) * d - (d * k + s) * c := by rw [a1, b1]
    rw [this]
    grind
  refine ⟨a2, a3, b2, b3, det, ?_⟩
  have nz : r ≠ 0 ∨ s ≠ 0 := by
    by_cases h1 : r = 0
    · right
      intro h2
      apply det
      rw [h1, h2]; simp
    · exact .inl h1
  have w1 := lin_pos a2 b2 nz hx
  have w2 := lin_pos (r := c) (s := d) (by omega) (by omega) (.inl (by omega)) hx
  have w3 : (r : Rat) * x + s < c * x + d := by
    have := lin_pos (r := c - r) (s := d - s) (by omega) (by omega) (.inl (by omega)) hx
    rw [Rat.intCast_sub, Rat.intCast_sub] at this
    grind
  have ea : (a : Rat) = c * k + r := by rw [← a1, Rat.intCast_add, Rat.intCast_mul]
  have eb : (b : Rat) = d * k + s := by rw [← b1, Rat.intCast_add, Rat.intCast_mul]
  rw [cf_step (k := k) (w := (r * x + s) / (c * x + d))]
  · congr 2
    grind
  · rw [ea, eb]
    grind
  · exact div_pos' w1 w2
  · rw [Rat.div_lt_iff w2]
    grind
/-- a row of whole parts, as the law rolls it -/
def PosRow : List Int → Prop
  | [] => False
  | [k] => 1 ≤ k ∧ k ≤ 5
  | k :: l => 0 ≤ k ∧ k ≤ 5 ∧ PosRow l
theorem PosRow.tl {k : Int} {l : List Int} (h : PosRow (k :: l)) (hl : l ≠ []) : 0 ≤ k ∧ k ≤ 5 ∧ PosRow l := by
  cases l with
  | nil => exact absurd rfl hl
  | cons a l => exact h
theorem PosRow.mk {k : Int} {l : List Int} (h1 : 0 ≤ k) (h2 : k ≤ 5) (h3 : PosRow l) : PosRow (k :: l) := by
  cases l with
  | nil => exact absurd h3 (by simp [PosRow])
  | cons a l => exact ⟨h1, h2, h3⟩
theorem PosRow.hd {k : Int} {l : List Int} (h : PosRow (k :: l)) : 0 ≤ k ∧ k ≤ 5 := by
  cases l with
  | nil => exact ⟨by have := h.1; omega, h.2⟩
  | cons a l => exact ⟨h.1, h.2.1⟩
theorem pos_row : ∀ {l : List Int}, PosRow l → ∃ p q : Int, 0 < p ∧ 0 < q ∧ cfv l = Rat.divInt p q ∧ p ≤ 6 ^ l.length ∧ q ≤ 6 ^ (l.length - 1)
  | [], h => absurd h (by simp [PosRow])
  | [k], h => ⟨k, 1, by have := h.1; omega, by decide, by rw [Rat.divInt_eq_div]; simp only [cfv]; grind, by have := h.2; simp; omega, by simp⟩
  | k :: a :: l, h => by
    obtain ⟨h1, h2, h3⟩ := h
    obtain ⟨p, q, e1, e2, e3, e4, e5⟩ := pos_row h3
    have k0 : 0 ≤ k * p := Int.mul_nonneg h1 (by omega)
    have k5 : k * p ≤ 5 * p := Int.mul_le_mul_of_nonneg_right h2 (by omega)
    refine ⟨k * p + q, p, by omega, e1, ?_, ?_, by simpa using e4⟩
    · rw [cfv_cons (by simp), e3, Rat.divInt_eq_div, Rat.divInt_eq_div, Rat.intCast_add, Rat.intCast_mul]
      have := ipos e1
      have := ipos e2
      grind
    · simp only [List.length_cons, Nat.add_sub_cancel] at e4 e5 ⊢
      have s1 : (6 : Int) ^ (l.length + 1 + 1) = 6 * 6 ^ (l.length + 1) := by rw [Int.pow_succ, Int.mul_comm]
      have s2 : (6 : Int) ^ (l.length + 1) = 6 * 6 ^ l.length := by rw [Int.pow_succ, Int.mul_comm]
      have s3 : (0 : Int) < 6 ^ l.length := Int.pow_pos (by decide)
      rw [s1]
      omega
theorem pos_val {l : List Int} (h : PosRow l) : 0 < cfv l := by
  obtain ⟨p, q, e1, e2, e3, _⟩ := pos_row h
  rw [e3, Rat.divInt_eq_div]
  exact div_pos' (ipos e1) (ipos e2)
theorem gcd_le_l {a b : Int} (h : a ≠ 0) : Int.gcd a b ≠ 0 := fun z => h (Int.gcd_eq_zero_iff.mp z).1
theorem divInt_small {p q : Int} (hq : q ≠ 0) : (Rat.divInt p q).num.natAbs ≤ p.natAbs ∧ (Rat.divInt p q).den ≤ q.natAbs := by
  rw [Rat.num_divInt, Rat.den_divInt, if_neg hq]
  refine ⟨?_, Nat.div_le_self _ _⟩
  have e : (q.sign * p).natAbs = p.natAbs := by
    rw [Int.natAbs_mul, Int.natAbs_sign_of_ne_zero hq, Nat.one_mul]
  have := Int.natAbs_ediv_le_natAbs (q.sign * p) (q.gcd p)
  omega
/-- so many bits above and below -/
def Hb (n : Nat) (q : Rat) : Prop := q.num.natAbs < 2 ^ n ∧ q.den < 2 ^ n
theorem hb_div {n : Nat} {p q : Int} (hq : q ≠ 0) (h1 : p.natAbs < 2 ^ n) (h2 : q.natAbs < 2 ^ n) : Hb n (Rat.divInt p q) := by
  obtain ⟨a, b⟩ := divInt_small (p := p) hq
  exact ⟨by omega, by omega⟩
theorem hb_int {n : Nat} {k : Int} (h : k.natAbs < 2 ^ n) (hn : 1 ≤ n) : Hb n (k : Rat) := by
  refine ⟨by rw [Rat.num_intCast]; exact h, ?_⟩
  rw [Rat.den_intCast]
  exact Nat.one_lt_two_pow (by omega)
theorem Hb.le {n m : Nat} {q : Rat} (h : Hb n q) (hm : n ≤ m) : Hb m q :=
  ⟨Nat.lt_of_lt_of_le h.1 (Nat.pow_le_pow_right (by decide) hm), Nat.lt_of_lt_of_le h.2 (Nat.pow_le_pow_right (by decide) hm)⟩
theorem Hb.mul {n m : Nat} {p q : Rat} (hp : Hb n p) (hq : Hb m q) : Hb (n + m) (p * q) := by
  have e : p * q = Rat.divInt (p.num * q.num) ((p.den : Int) * q.den) := by
    rw [← Rat.divInt_mul_divInt, Rat.num_divInt_den, Rat.num_divInt_den]
  have d : (p.den : Int) * q.den ≠ 0 := Int.mul_ne_zero (by have := p.den_nz; omega) (by have := q.den_nz; omega)
  rw [e]
  refine hb_div d ?_ ?_
  · rw [Int.natAbs_mul, Nat.pow_add]
    exact Nat.mul_lt_mul'' hp.1 hq.1
  · rw [Int.natAbs_mul, Nat.pow_add]
    exact Nat.mul_lt_mul'' hp.2 hq.2
theorem Hb.add {n m : Nat} {p q : Rat} (hp : Hb n p) (hq : Hb m q) : Hb (n + m + 1) (p + q) := by
  have d1 : (p.den : Int) ≠ 0 := by have := p.den_nz; omega
  have d2 : (q.den : Int) ≠ 0 := by have := q.den_nz; omega
  have e : p + q = Rat.divInt (p.num * q.den + q.num * p.den) ((p.den : Int) * q.den) := by
    rw [← Rat.divInt_add_divInt _ _ d1 d2, Rat.num_divInt_den, Rat.num_divInt_den]
  rw [e]
  have t1 : p.num.natAbs * q.den < 2 ^ n * 2 ^ m := Nat.mul_lt_mul'' hp.1 hq.2
  have t2 : q.num.natAbs * p.den < 2 ^ m * 2 ^ n := Nat.mul_lt_mul'' hq.1 hp.2
  have t3 : p.den * q.den < 2 ^ n * 2 ^ m := Nat.mul_lt_mul'' hp.2 hq.2
  have c : 2 ^ m * 2 ^ n = 2 ^ n * 2 ^ m := Nat.mul_comm _ _
  have s : 2 ^ (n + m + 1) = 2 * (2 ^ n * 2 ^ m) := by rw [Nat.pow_succ, Nat.pow_add]; omega
  refine hb_div (Int.mul_ne_zero d1 d2) ?_ ?_
  · have := Int.natAbs_add_le (p.num * q.den) (q.num * p.den)
    rw [Int.natAbs_mul, Int.natAbs_mul, Int.natAbs_natCast, Int.natAbs_natCast] at this
    omega
  · rw [Int.natAbs_mul, Int.natAbs_natCast, Int.natAbs_natCast]
    omega
theorem Hb.inv {n : Nat} {q : Rat} (h : Hb n q) (h0 : q ≠ 0) : Hb n (1 / q) := by
  have e : 1 / q = Rat.divInt q.den q.num := by
    conv => lhs; rw [← Rat.num_divInt_den q]
    rw [Rat.div_def, Rat.one_mul, Rat.inv_divInt]
  have n0 : q.num ≠ 0 := fun z => h0 (Rat.num_eq_zero.mp z)
  rw [e]
  exact hb_div n0 (by rw [Int.natAbs_natCast]; exact h.2) h.1
theorem Hb.div {n m : Nat} {p q : Rat} (hp : Hb n p) (hq : Hb m q) (h0 : q ≠ 0) : Hb (n + m) (p / q) := by
  have e : p / q = p * (1 / q) := by rw [Rat.div_def, Rat.div_def, Rat.one_mul]
  rw [e]
  exact hp.mul (hq.inv h0)
/-- what of_row needs -/
def GoodRow (n : Nat) : List Int → Prop
  | [] => False
  | [k] => Hb n (k : Rat)
  | k :: l => GoodRow n l ∧ Hb n (k : Rat) ∧ cfv l ≠ 0 ∧ Hb n (cfv l)
theorem GoodRow.cons {n : Nat} {k : Int} {l : List Int} (hl : l ≠ []) (h : GoodRow n l ∧ Hb n (k : Rat) ∧ cfv l ≠ 0 ∧ Hb n (cfv l)) : GoodRow n (k :: l) := by
  cases l with
  | nil => exact absurd rfl hl
  | cons a l => exact h
theorem good_cf {n : Nat} (hn : 1 ≤ n) : ∀ {t : Nat} {v : Rat}, Done v t → Hb n v → GoodRow n (cfR t v)
  | 0, _, h, _ => absurd h (by simp [Done])
  | t + 1, v, h, hv => by
    have hf : Hb n (v.floor : Rat) := hb_int (Nat.lt_of_le_of_lt (by rw [Rat.floor_def]; exact Int.natAbs_ediv_le_natAbs _ _) hv.1) hn
    by_cases h0 : v - v.floor = 0
    · simp only [cfR, h0, if_true, GoodRow]
      exact hf
    · rcases h with h | h
      · exact absurd h h0
      · obtain ⟨a, b⟩ := nx_num h0
        have d0 : (0 : Int) < v.den := by have := v.den_nz; omega
        have l1 := Int.emod_lt_of_pos v.num d0
        have hb : Hb n (1 / (v - v.floor)) := ⟨by rw [a, Int.natAbs_natCast]; exact hv.2, by have := hv.2; omega⟩
        simp only [cfR, h0, if_false]
        refine GoodRow.cons (cf_ne h) ⟨good_cf hn h hb, hf, ?_, ?_⟩
        · rw [cf_val h]
          intro z
          rw [z] at a
          simp at a
          omega
        · rw [cf_val h]
          exact hb
theorem good_row {n : Nat} : ∀ {l : List Int}, PosRow l → l.length + 1 ≤ n → GoodRow (3 * n) l
  | [], h, _ => absurd h (by simp [PosRow])
  | [k], h, hl => hb_int (Nat.lt_of_lt_of_le (show k.natAbs < 2 ^ 3 by have := h.1; have := h.2; omega) (Nat.pow_le_pow_right (by decide) (by omega))) (by omega)
  | k :: a :: l, h, hl => by
    obtain ⟨h1, h2, h3⟩ := h
    obtain ⟨p, q, e1, e2, e3, e4, e5⟩ := pos_row h3
    have pv := pos_val h3
    have six : ∀ j, j ≤ n → (6 : Int) ^ j < 2 ^ (3 * n) + 1 := fun j hj => by
      have : (6 : Int) ^ j ≤ 8 ^ j := by
        have := Nat.pow_le_pow_left (show 6 ≤ 8 by decide) j
        exact_mod_cast this
      have h8 : (8 : Int) ^ j ≤ 8 ^ n := by
        have := Nat.pow_le_pow_right (show 0 < 8 by decide) hj
        exact_mod_cast this
      have : (8 : Int) ^ n = 2 ^ (3 * n) := by rw [Int.pow_mul]; rfl
      omega
    refine ⟨good_row h3 (by simp at hl ⊢; omega), hb_int (Nat.lt_of_lt_of_le (show k.natAbs < 2 ^ 3 by omega) (Nat.pow_le_pow_right (by decide) (by omega))) (by omega), by grind, ?_⟩
    rw [e3]
    have big : ∀ j : Nat, j + 1 ≤ n → (6 : Int) ^ j < 2 ^ (3 * n) := fun j hj => by
      have a := six (j + 1) hj
      have b : (6 : Int) ^ (j + 1) = 6 * 6 ^ j := by rw [Int.pow_succ, Int.mul_comm]
      have c : (0 : Int) < 6 ^ j := Int.pow_pos (by decide)
      omega
    have c2 : ((2 ^ (3 * n) : Nat) : Int) = 2 ^ (3 * n) := by simp
    refine hb_div (by omega) ?_ ?_
    · have := big (a :: l).length (by simp at hl ⊢; omega)
      omega
    · have := big ((a :: l).length - 1) (by simp at hl ⊢; omega)
      omega
end Dat

/-! Dat26 -/
set_option linter.all false
set_option maxRecDepth 100000
set_option maxHeartbeats 4000000
set_option exponentiation.threshold 10000
/-! Dat26: parts with many digits, how many bits they may have; loops. -/
namespace Dat
open PySem L2
section
variable {P : Prog} {iS iM : Nat} {n : Nat} {m : Mem}
theorem shared_any (hsh : P.fns[iS]? = some ⟨2, 2, irShared⟩) (htn : P.turns = 2 ^ 4096) {a b : Int} {N : Nat} (h0 : 0 ≤ b) (hb : b.natAbs < 2 ^ N) (hN : N ≤ 9000) : runF P (n + 1) iS [.int a, .int b] m = .ok (.int (Int.gcd a b)) m := by
  rw [runF_at hsh rfl]
  have loop : ∀ (C : Ctl) (N : Nat) (a b : Int), 0 ≤ b → b.natAbs < 2 ^ N → ∃ (a' : Int) (k : Nat), k ≤ 2 * N + 1 ∧ (a'.natAbs : Int) = Int.gcd a b ∧ whileN (fun e m1 => evalE (.cmp .NotEq (.var 1) (.con (.int 0))) C e m1) (fun e m1 => evalB C [(.asg (.tup [(.var 0), (.var 1)]) (.tup [(.var 1), (.bin .Mod (.var 0) (.var 1))]))] e m1) k [some (.int a), some (.int b)] m = .nx [some (.int a'), some (.int 0)] m := by
    intro C N
    have zero : ∀ a : Int, ∃ (a' : Int), (a'.natAbs : Int) = Int.gcd a 0 ∧ whileN (fun e m1 => evalE (.cmp .NotEq (.var 1) (.con (.int 0))) C e m1) (fun e m1 => evalB C [(.asg (.tup [(.var 0), (.var 1)]) (.tup [(.var 1), (.bin .Mod (.var 0) (.var 1))]))] e m1) 1 [some (.int a), some (.int 0)] m = .nx [some (.int a'), some (.int 0)] m := fun a => by
      refine ⟨a, by simp, ?_⟩
      rw [while_succ]
      simp only [fin_rt, fin_nx, fin_exn, seq_nx, seq_rt, seq_exn, seq_bk, seq_ct, bind_ok, bind_exn, out_ok, out_exn, tst_ok, tst_exn, gc_ok_, gc_exn, gcM_same, asB_bl, selB_t, selB_f, selE_t, selE_f, rdV_some, stT_some, e_var, e_con, e_glo, e_nop, t_bin, t_neg, t_not, t_cmp, t_cmp2, cmp2T_t, cmp2T_f, t_and, t_or, t_if, t_idx, t_tup, t_lst, t_call, t_blt, t_mth, mthT_t, es_nil, ts_cons, b_nil, tb_cons, ts_asg, ts_expr, ts_if, ts_ret, s_rais, seqT_nx, seqT_rt, seqT_exn, seqT_bk, seqT_ct, bindT_ok, bindT_exn, outT_ok, outT_exn, tstT_ok, tstT_exn, asBT_bl, c_eqI, c_neI, c_ltI, c_leI, c_gtI, c_geI, o_addI, o_subI, n_I, abs_N, ix_tup, lift_some, at0, at1, at2, at3, asT_var, asT_tup, asTs_nil, asTs_cons, ctl_call, List.getElem?_cons_zero, List.getElem?_cons_succ, List.set_cons_zero, List.set_cons_succ, List.length_cons, List.length_nil, List.map_cons, List.map_nil, List.cons_append, List.nil_append, List.replicate_succ, List.replicate_zero, Nat.reduceAdd, Nat.reduceSub, Nat.reduceLT, Nat.reduceLeDiff, sz, Option.bind_some, Option.bind_none, Option.map_some, Bool.false_eq_true, if_true, if_false, reduceIte, Nat.zero_add, startE, Bool.not_true, Bool.not_false, decide_true, decide_false]
    have step : ∀ (k : Nat) (a b : Int) (o : Out), b ≠ 0 → whileN (fun e m1 => evalE (.cmp .NotEq (.var 1) (.con (.int 0))) C e m1) (fun e m1 => evalB C [(.asg (.tup [(.var 0), (.var 1)]) (.tup [(.var 1), (.bin .Mod (.var 0) (.var 1))]))] e m1) k [some (.int b), some (.int (a.fmod b))] m = o →
        whileN (fun e m1 => evalE (.cmp .NotEq (.var 1) (.con (.int 0))) C e m1) (fun e m1 => evalB C [(.asg (.tup [(.var 0), (.var 1)]) (.tup [(.var 1), (.bin .Mod (.var 0) (.var 1))]))] e m1) (k + 1) [some (.int a), some (.int b)] m = o := fun k a b o h0 h => by
      rw [while_succ, ← h]
      simp only [fin_rt, fin_nx, fin_exn, seq_nx, seq_rt, seq_exn, seq_bk, seq_ct, bind_ok, bind_exn, out_ok, out_exn, tst_ok, tst_exn, gc_ok_, gc_exn, gcM_same, asB_bl, selB_t, selB_f, selE_t, selE_f, rdV_some, stT_some, e_var, e_con, e_glo, e_nop, t_bin, t_neg, t_not, t_cmp, t_cmp2, cmp2T_t, cmp2T_f, t_and, t_or, t_if, t_idx, t_tup, t_lst, t_call, t_blt, t_mth, mthT_t, es_nil, ts_cons, b_nil, tb_cons, ts_asg, ts_expr, ts_if, ts_ret, s_rais, seqT_nx, seqT_rt, seqT_exn, seqT_bk, seqT_ct, bindT_ok, bindT_exn, outT_ok, outT_exn, tstT_ok, tstT_exn, asBT_bl, c_eqI, c_neI, c_ltI, c_leI, c_gtI, c_geI, o_addI, o_subI, n_I, abs_N, ix_tup, lift_some, at0, at1, at2, at3, asT_var, asT_tup, asTs_nil, asTs_cons, ctl_call, List.getElem?_cons_zero, List.getElem?_cons_succ, List.set_cons_zero, List.set_cons_succ, List.length_cons, List.length_nil, List.map_cons, List.map_nil, List.cons_append, List.nil_append, List.replicate_succ, List.replicate_zero, Nat.reduceAdd, Nat.reduceSub, Nat.reduceLT, Nat.reduceLeDiff, sz, Option.bind_some, Option.bind_none, Option.map_some, Bool.false_eq_true, if_true, if_false, reduceIte, Nat.zero_add, startE, Bool.not_true, Bool.not_false, decide_true, decide_false, h0, o_modI h0]
    induction N with
    | zero =>
      intro a b h0 h
      have : b = 0 := by simp at h; omega
      subst this
      obtain ⟨a', e1, e2⟩ := zero a
      exact ⟨a', 1, by omega, e1, e2⟩
    | succ N ih =>
      intro a b h0 h
      by_cases hb : b = 0
      · subst hb
        obtain ⟨a', e1, e2⟩ := zero a
        exact ⟨a', 1, by omega, e1, e2⟩
      · have l1 := Int.fmod_nonneg_of_pos a (show 0 < b by omega)
        have l2 := Int.fmod_lt_of_pos a (show 0 < b by omega)
        have g1 := gcd_step a b
        generalize hr : a.fmod b = r at *
        by_cases hr0 : r = 0
        · subst hr0
          obtain ⟨a', e1, e2⟩ := zero b
          refine ⟨a', 2, by omega, by rw [e1, g1], step 1 a b _ hb (by rw [hr]; exact e2)⟩
        · have l3 := Int.fmod_nonneg_of_pos b (show 0 < r by omega)
          have l4 := Int.fmod_lt_of_pos b (show 0 < r by omega)
          have g2 := gcd_step b r
          have l5 : b.fmod r + r ≤ b := by
            rw [Int.fmod_eq_emod_of_nonneg _ (by omega)]
            have e := Int.mul_ediv_add_emod b r
            have q1 : 1 ≤ b / r := by
              rw [Int.le_ediv_iff_mul_le (by omega)]
              omega
            have := Int.mul_le_mul_of_nonneg_left q1 (show 0 ≤ r by omega)
            omega
          have p : 2 ^ (N + 1) = 2 * 2 ^ N := by rw [Nat.pow_succ, Nat.mul_comm]
          generalize hs : b.fmod r = s at *
          obtain ⟨a', k, hk, e1, e2⟩ := ih r s l3 (by omega)
          refine ⟨a', k + 1 + 1, by omega, by rw [e1, g2, g1], step (k + 1) a b _ hb ?_⟩
          rw [hr]
          exact step k b r _ hr0 (by rw [hs]; exact e2)
  obtain ⟨a', k, hk, e1, e2⟩ := loop (P.ctl (runF P n) (runF P (n - 2)) n) N a b h0 hb
  have e3 : evalS (P.ctl (runF P n) (runF P (n - 2)) n) (.whl (.cmp .NotEq (.var 1) (.con (.int 0))) [(.asg (.tup [(.var 0), (.var 1)]) (.tup [(.var 1), (.bin .Mod (.var 0) (.var 1))]))]) [some (.int a), some (.int b)] m = .nx [some (.int a'), some (.int 0)] m := by
    rw [s_whl]
    have e4 : (P.ctl (runF P n) (runF P (n - 2)) n).turns = 2 ^ 4096 := htn
    rw [e4]
    refine while_of e2 (by simp) (Nat.le_trans hk (Nat.le_trans (show 2 * N + 1 ≤ 2 ^ 15 by omega) (Nat.pow_le_pow_right (by decide) (by decide))))
  simp only [fin_rt, fin_nx, fin_exn, seq_nx, seq_rt, seq_exn, seq_bk, seq_ct, bind_ok, bind_exn, out_ok, out_exn, tst_ok, tst_exn, gc_ok_, gc_exn, gcM_same, asB_bl, selB_t, selB_f, selE_t, selE_f, rdV_some, stT_some, e_var, e_con, e_glo, e_nop, t_bin, t_neg, t_not, t_cmp, t_cmp2, cmp2T_t, cmp2T_f, t_and, t_or, t_if, t_idx, t_tup, t_lst, t_call, t_blt, t_mth, mthT_t, es_nil, ts_cons, b_nil, tb_cons, ts_asg, ts_expr, ts_if, ts_ret, s_rais, seqT_nx, seqT_rt, seqT_exn, seqT_bk, seqT_ct, bindT_ok, bindT_exn, outT_ok, outT_exn, tstT_ok, tstT_exn, asBT_bl, c_eqI, c_neI, c_ltI, c_leI, c_gtI, c_geI, o_addI, o_subI, n_I, abs_N, ix_tup, lift_some, at0, at1, at2, at3, asT_var, asT_tup, asTs_nil, asTs_cons, ctl_call, List.getElem?_cons_zero, List.getElem?_cons_succ, List.set_cons_zero, List.set_cons_succ, List.length_cons, List.length_nil, List.map_cons, List.map_nil, List.cons_append, List.nil_append, List.replicate_succ, List.replicate_zero, Nat.reduceAdd, Nat.reduceSub, Nat.reduceLT, Nat.reduceLeDiff, sz, Option.bind_some, Option.bind_none, Option.map_some, Bool.false_eq_true, if_true, if_false, reduceIte, Nat.zero_add, startE, Bool.not_true, Bool.not_false, decide_true, decide_false, irShared, e3, e1]
theorem shared_big (hP : PartsOk P iS iM) {a b : Int} {N : Nat} (h0 : 0 ≤ b) (hb : b.natAbs < 2 ^ N) (hN : N ≤ 9000) : runF P (n + 1) iS [.int a, .int b] m = .ok (.int (Int.gcd a b)) m := shared_any hP.sh hP.tn h0 hb hN
theorem made_big (hP : PartsOk P iS iM) {t b : Int} {N : Nat} (hb : b ≠ 0) (h2 : b.natAbs < 2 ^ N) (hN : N ≤ 9000) : runF P (n + 2) iM [.int t, .int b] m = .ok (encQ (Rat.divInt t b)) m := by
  rw [runF_at hP.md rfl]
  have h3 : (-b).natAbs < 2 ^ N := by rwa [Int.natAbs_neg]
  have g0 : Int.gcd t b ≠ 0 := fun z => hb (Int.gcd_eq_zero_iff.mp z).2
  have gl : Int.gcd t b < 2 ^ N := Nat.lt_of_le_of_lt (Int.gcd_le_natAbs_right t hb) h2
  have gp : (0 : Int) ≤ (Int.gcd t b : Int) := Int.natCast_nonneg _
  have gD : ∀ x : Int, DivG x (Int.gcd t b : Int) := fun x => divG_of (by omega) (by
    rw [Int.natAbs_natCast]
    exact Nat.lt_of_lt_of_le gl (Nat.pow_le_pow_right (by decide) hN))
  have fin : ∀ s : Int, s = b.sign → (Res.ok (D.tup [.int ((s * t).fdiv (Int.gcd t b)), .int ((s * b).fdiv (Int.gcd t b))]) m : Res D) = .ok (encQ (Rat.divInt t b)) m := fun s hs => by
    unfold encQ
    rw [Rat.num_divInt, Rat.den_divInt, if_neg hb, Int.fdiv_eq_ediv_of_nonneg _ gp, Int.fdiv_eq_ediv_of_nonneg _ gp, hs, Int.gcd_comm b t]
    congr 5
    rw [Int.natCast_ediv, Int.sign_mul_self]
  by_cases h1 : b < 0
  · have e : b.sign = -1 := Int.sign_eq_neg_one_of_neg h1
    have gn : Int.gcd (-t) (-b) = Int.gcd t b := by rw [Int.neg_gcd, Int.gcd_neg]
    have f := fin (-1) e.symm
    rw [Int.neg_one_mul, Int.neg_one_mul] at f
    simp only [fin_rt, fin_nx, fin_exn, seq_nx, seq_rt, seq_exn, seq_bk, seq_ct, bind_ok, bind_exn, out_ok, out_exn, tst_ok, tst_exn, gc_ok_, gc_exn, gcM_same, asB_bl, selB_t, selB_f, selE_t, selE_f, rdV_some, stT_some, e_var, e_con, e_glo, e_nop, t_bin, t_neg, t_not, t_cmp, t_cmp2, cmp2T_t, cmp2T_f, t_and, t_or, t_if, t_idx, t_tup, t_lst, t_call, t_blt, t_mth, mthT_t, es_nil, ts_cons, b_nil, tb_cons, ts_asg, ts_expr, ts_if, ts_ret, s_rais, seqT_nx, seqT_rt, seqT_exn, seqT_bk, seqT_ct, bindT_ok, bindT_exn, outT_ok, outT_exn, tstT_ok, tstT_exn, asBT_bl, c_eqI, c_neI, c_ltI, c_leI, c_gtI, c_geI, o_addI, o_subI, n_I, abs_N, ix_tup, lift_some, at0, at1, at2, at3, asT_var, asT_tup, asTs_nil, asTs_cons, ctl_call, List.getElem?_cons_zero, List.getElem?_cons_succ, List.set_cons_zero, List.set_cons_succ, List.length_cons, List.length_nil, List.map_cons, List.map_nil, List.cons_append, List.nil_append, List.replicate_succ, List.replicate_zero, Nat.reduceAdd, Nat.reduceSub, Nat.reduceLT, Nat.reduceLeDiff, sz, Option.bind_some, Option.bind_none, Option.map_some, Bool.false_eq_true, if_true, if_false, reduceIte, Nat.zero_add, startE, Bool.not_true, Bool.not_false, decide_true, decide_false, irMade, hb, h1, shared_big hP (show 0 ≤ -b by omega) h3 hN, gn, o_divI (gD _)]
    exact f
  · have e : b.sign = 1 := Int.sign_eq_one_of_pos (by omega)
    have f := fin 1 e.symm
    rw [Int.one_mul, Int.one_mul] at f
    simp only [fin_rt, fin_nx, fin_exn, seq_nx, seq_rt, seq_exn, seq_bk, seq_ct, bind_ok, bind_exn, out_ok, out_exn, tst_ok, tst_exn, gc_ok_, gc_exn, gcM_same, asB_bl, selB_t, selB_f, selE_t, selE_f, rdV_some, stT_some, e_var, e_con, e_glo, e_nop, t_bin, t_neg, t_not, t_cmp, t_cmp2, cmp2T_t, cmp2T_f, t_and, t_or, t_if, t_idx, t_tup, t_lst, t_call, t_blt, t_mth, mthT_t, es_nil, ts_cons, b_nil, tb_cons, ts_asg, ts_expr, ts_if, ts_ret, s_rais, seqT_nx, seqT_rt, seqT_exn, seqT_bk, seqT_ct, bindT_ok, bindT_exn, outT_ok, outT_exn, tstT_ok, tstT_exn, asBT_bl, c_eqI, c_neI, c_ltI, c_leI, c_gtI, c_geI, o_addI, o_subI, n_I, abs_N, ix_tup, lift_some, at0, at1, at2, at3, asT_var, asT_tup, asTs_nil, asTs_cons, ctl_call, List.getElem?_cons_zero, List.getElem?_cons_succ, List.set_cons_zero, List.set_cons_succ, List.length_cons, List.length_nil, List.map_cons, List.map_nil, List.cons_append, List.nil_append, List.replicate_succ, List.replicate_zero, Nat.reduceAdd, Nat.reduceSub, Nat.reduceLT, Nat.reduceLeDiff, sz, Option.bind_some, Option.bind_none, Option.map_some, Bool.false_eq_true, if_true, if_false, reduceIte, Nat.zero_add, startE, Bool.not_true, Bool.not_false, decide_true, decide_false, irMade, hb, h1, shared_big hP (show 0 ≤ b by omega) h2 hN, o_divI (gD _)]
    exact f
end
/-! ### weights: how many bits above and below; none: nought -/
abbrev Wt := Option (Nat × Nat)
def HW (w : Wt) (q : Rat) : Prop := match w with
  | none => q = 0
  | some (a, b) => q.num.natAbs ≤ 2 ^ a ∧ q.den ≤ 2 ^ b
def wAdd (x y : Wt) : Wt := match x, y with
  | none, y => y
  | x, none => x
  | some (a, b), some (c, d) => some (max (a + d) (c + b) + 1, b + d)
def wMul (x y : Wt) : Wt := match x, y with
  | some (a, b), some (c, d) => some (a + c, b + d)
  | _, _ => none
def wDiv (x y : Wt) : Wt := match x, y with
  | some (a, b), some (c, d) => some (a + d, b + c)
  | _, _ => none
def wOk (x : Wt) : Bool := match x with
  | none => true
  | some (a, b) => decide (a ≤ 1000000) && decide (b ≤ 8990)
theorem HW.zero {w : Wt} : HW w 0 := by
  match w with
  | none => rfl
  | some (a, b) => exact ⟨by simp, Nat.one_le_two_pow⟩
theorem hw_div {a b : Nat} {p q : Int} (hq : q ≠ 0) (h1 : p.natAbs ≤ 2 ^ a) (h2 : q.natAbs ≤ 2 ^ b) : HW (some (a, b)) (Rat.divInt p q) := by
  obtain ⟨x, y⟩ := divInt_small (p := p) hq
  exact ⟨by omega, by omega⟩
theorem rat_num {q : Rat} : Rat.divInt q.num q.den = q := Rat.num_divInt_den q
theorem HW.add {x y : Wt} {p q : Rat} (hp : HW x p) (hq : HW y q) : HW (wAdd x y) (p + q) := by
  match x, y with
  | none, y => rw [show p = 0 from hp, Rat.zero_add]; exact hq
  | some (a, b), none => rw [show q = 0 from hq, Rat.add_zero]; exact hp
  | some (a, b), some (c, d) =>
    have e : p + q = Rat.divInt (p.num * q.den + q.num * p.den) ((p.den : Int) * q.den) := by
      rw [← Rat.divInt_add_divInt _ _ (den_ne p) (den_ne q), rat_num, rat_num]
    rw [e]
    have t1 : p.num.natAbs * q.den ≤ 2 ^ a * 2 ^ d := Nat.mul_le_mul hp.1 hq.2
    have t2 : q.num.natAbs * p.den ≤ 2 ^ c * 2 ^ b := Nat.mul_le_mul hq.1 hp.2
    have t3 : p.den * q.den ≤ 2 ^ b * 2 ^ d := Nat.mul_le_mul hp.2 hq.2
    rw [← Nat.pow_add] at t1 t2 t3
    have m1 : 2 ^ (a + d) ≤ 2 ^ (max (a + d) (c + b)) := Nat.pow_le_pow_right (by decide) (Nat.le_max_left _ _)
    have m2 : 2 ^ (c + b) ≤ 2 ^ (max (a + d) (c + b)) := Nat.pow_le_pow_right (by decide) (Nat.le_max_right _ _)
    refine hw_div (Int.mul_ne_zero (den_ne p) (den_ne q)) ?_ ?_
    · have := Int.natAbs_add_le (p.num * q.den) (q.num * p.den)
      rw [Int.natAbs_mul, Int.natAbs_mul, Int.natAbs_natCast, Int.natAbs_natCast] at this
      rw [Nat.pow_succ]
      omega
    · rw [Int.natAbs_mul, Int.natAbs_natCast, Int.natAbs_natCast]
      exact t3
theorem HW.neg {x : Wt} {p : Rat} (hp : HW x p) : HW x (-p) := by
  match x with
  | none => rw [show p = 0 from hp]; rfl
  | some (a, b) => exact ⟨by rw [Rat.neg_num, Int.natAbs_neg]; exact hp.1, by rw [Rat.neg_den]; exact hp.2⟩
theorem HW.sub {x y : Wt} {p q : Rat} (hp : HW x p) (hq : HW y q) : HW (wAdd x y) (p - q) := by
  rw [Rat.sub_eq_add_neg]
  exact hp.add hq.neg
theorem HW.mul {x y : Wt} {p q : Rat} (hp : HW x p) (hq : HW y q) : HW (wMul x y) (p * q) := by
  match x, y with
  | none, y => rw [show p = 0 from hp, Rat.zero_mul]; exact HW.zero
  | some (a, b), none => rw [show q = 0 from hq, Rat.mul_zero]; exact HW.zero
  | some (a, b), some (c, d) =>
    have e : p * q = Rat.divInt (p.num * q.num) ((p.den : Int) * q.den) := by
      rw [← Rat.divInt_mul_divInt, rat_num, rat_num]
    rw [e]
    refine hw_div (Int.mul_ne_zero (den_ne p) (den_ne q)) ?_ ?_
    · rw [Int.natAbs_mul, Nat.pow_add]
      exact Nat.mul_le_mul hp.1 hq.1
    · rw [Int.natAbs_mul, Int.natAbs_natCast, Int.natAbs_natCast, Nat.pow_add]
      exact Nat.mul_le_mul hp.2 hq.2
theorem div_eq {p q : Rat} : p / q = Rat.divInt (p.num * q.den) ((p.den : Int) * q.num) := by
  have h1 : p = Rat.divInt p.num p.den := rat_num.symm
  have h2 : q = Rat.divInt q.num q.den := rat_num.symm
  conv => lhs; rw [h1, h2]
  rw [Rat.div_def, Rat.inv_divInt, Rat.divInt_mul_divInt]
theorem HW.div {x y : Wt} {p q : Rat} (hp : HW x p) (hq : HW y q) (h0 : q ≠ 0) : HW (wDiv x y) (p / q) := by
  match x, y with
  | none, y => rw [show p = 0 from hp, Rat.div_def, Rat.zero_mul]; exact HW.zero
  | some (a, b), none => exact absurd hq h0
  | some (a, b), some (c, d) =>
    rw [div_eq]
    refine hw_div (Int.mul_ne_zero (den_ne p) (fun z => h0 (Rat.num_eq_zero.mp z))) ?_ ?_
    · rw [Int.natAbs_mul, Int.natAbs_natCast, Nat.pow_add]
      exact Nat.mul_le_mul hp.1 hq.2
    · rw [Int.natAbs_mul, Int.natAbs_natCast, Nat.pow_add]
      exact Nat.mul_le_mul hp.2 hq.1
theorem lt2 {a b : Nat} (h : a ≤ 2 ^ b) : a < 2 ^ (b + 1) := by
  rw [Nat.pow_succ]
  have := Nat.one_le_two_pow (n := b)
  omega
theorem mgN {a b : Int} {x y : Nat} (ha : a.natAbs ≤ 2 ^ x) (hb : b.natAbs ≤ 2 ^ y) (h : x + y ≤ 2000000) : MulG a b := mulG_of (lt2 ha) (lt2 hb) (by omega)
section
variable {P : Prog} {iS iM : Nat} {n : Nat} {m : Mem}
theorem num0 {q : Rat} (h : q = 0) : q.num = 0 := by rw [h]; rfl
/-- a weight in numbers -/
theorem HW.nums {w : Wt} {q : Rat} (h : HW w q) : ∃ a b, q.num.natAbs ≤ 2 ^ a ∧ q.den ≤ 2 ^ b ∧ (w = Option.some (a, b) ∨ (w = none ∧ a = 0 ∧ b = 0)) := by
  match w with
  | none => exact ⟨0, 0, by rw [show q = 0 from h]; decide, by rw [show q = 0 from h]; decide, .inr ⟨rfl, rfl, rfl⟩⟩
  | some (a, b) => exact ⟨a, b, h.1, h.2, .inl rfl⟩
theorem wOk_some {a b : Nat} (h : wOk (Option.some (a, b)) = true) : a ≤ 1000000 ∧ b ≤ 8990 := by
  simpa [wOk] using h
theorem sum_lim {x y : Wt} {a b c d : Nat} (hx : x = Option.some (a, b) ∨ (x = none ∧ a = 0 ∧ b = 0)) (hy : y = Option.some (c, d) ∨ (y = none ∧ c = 0 ∧ d = 0)) (h : wOk (wAdd x y) = true) (hx' : wOk x = true) (hy' : wOk y = true) : a + d ≤ 1100000 ∧ c + b ≤ 1100000 ∧ b + d ≤ 8990 ∧ b ≤ 8990 ∧ d ≤ 8990 := by
  rcases hx with rfl | ⟨rfl, rfl, rfl⟩
  · have := wOk_some hx'
    rcases hy with rfl | ⟨rfl, rfl, rfl⟩
    · have h2 := wOk_some hy'
      have h3 := wOk_some h
      omega
    · omega
  · rcases hy with rfl | ⟨rfl, rfl, rfl⟩
    · have := wOk_some hy'
      omega
    · omega
theorem den_lt {p q : Rat} {b d : Nat} (hb : p.den ≤ 2 ^ b) (hd : q.den ≤ 2 ^ d) : ((p.den : Int) * q.den).natAbs < 2 ^ (b + d + 1) := by
  rw [Int.natAbs_mul, Int.natAbs_natCast, Int.natAbs_natCast]
  refine lt2 ?_
  rw [Nat.pow_add]
  exact Nat.mul_le_mul hb hd
theorem dn {q : Rat} {d : Nat} (h : q.den ≤ 2 ^ d) : (q.den : Int).natAbs ≤ 2 ^ d := by rwa [Int.natAbs_natCast]
theorem wadd_x {x y : Wt} (h : wOk (wAdd x y) = true) : wOk x = true ∧ wOk y = true := by
  match x, y with
  | none, y => exact ⟨rfl, h⟩
  | some (a, b), none => exact ⟨h, rfl⟩
  | some (a, b), some (c, d) =>
    have h3 := wOk_some h
    simp only [wOk, Bool.and_eq_true, decide_eq_true_eq]
    omega
theorem add_w (hP : PartsOk P iS iM) {f : Nat} (hf : P.fns[f]? = some ⟨2, 2, irAdd iM⟩) {x y : Wt} {p q : Rat} (hp : HW x p) (hq : HW y q) (hw : wOk (wAdd x y) = true) : runF P (n + 3) f [encQ p, encQ q] m = .ok (encQ (p + q)) m := by
  rw [runF_at hf rfl]
  obtain ⟨hx, hy⟩ := wadd_x hw
  obtain ⟨a, b, p1, p2, p3⟩ := hp.nums
  obtain ⟨c, d, q1, q2, q3⟩ := hq.nums
  obtain ⟨l1, l2, l3, l4, l5⟩ := sum_lim p3 q3 hw hx hy
  have hb : (p.den : Int) * q.den ≠ 0 := Int.mul_ne_zero (den_ne p) (den_ne q)
  have e : p + q = Rat.divInt (p.num * q.den + q.num * p.den) ((p.den : Int) * q.den) := by
    rw [← Rat.divInt_add_divInt _ _ (den_ne p) (den_ne q), rat_num, rat_num]
  rw [e]
  have md := made_big (n := n) (m := m) (t := p.num * q.den + q.num * p.den) hP hb (den_lt p2 q2) (by omega)
  have m1 : MulG p.num q.den := mgN p1 (dn q2) (by omega)
  have m2 : MulG q.num p.den := mgN q1 (dn p2) (by omega)
  have m3 : MulG p.den q.den := mgN (dn p2) (dn q2) (by omega)
  generalize encQ (Rat.divInt (p.num * q.den + q.num * p.den) ((p.den : Int) * q.den)) = R at md
  simp only [fin_rt, fin_nx, fin_exn, seq_nx, seq_rt, seq_exn, seq_bk, seq_ct, bind_ok, bind_exn, out_ok, out_exn, tst_ok, tst_exn, gc_ok_, gc_exn, gcM_same, asB_bl, selB_t, selB_f, selE_t, selE_f, rdV_some, stT_some, e_var, e_con, e_glo, e_nop, t_bin, t_neg, t_not, t_cmp, t_cmp2, cmp2T_t, cmp2T_f, t_and, t_or, t_if, t_idx, t_tup, t_lst, t_call, t_blt, t_mth, mthT_t, es_nil, ts_cons, b_nil, tb_cons, ts_asg, ts_expr, ts_if, ts_ret, s_rais, seqT_nx, seqT_rt, seqT_exn, seqT_bk, seqT_ct, bindT_ok, bindT_exn, outT_ok, outT_exn, tstT_ok, tstT_exn, asBT_bl, c_eqI, c_neI, c_ltI, c_leI, c_gtI, c_geI, o_addI, o_subI, n_I, abs_N, ix_tup, lift_some, at0, at1, at2, at3, asT_var, asT_tup, asTs_nil, asTs_cons, ctl_call, List.getElem?_cons_zero, List.getElem?_cons_succ, List.set_cons_zero, List.set_cons_succ, List.length_cons, List.length_nil, List.map_cons, List.map_nil, List.cons_append, List.nil_append, List.replicate_succ, List.replicate_zero, Nat.reduceAdd, Nat.reduceSub, Nat.reduceLT, Nat.reduceLeDiff, sz, Option.bind_some, Option.bind_none, Option.map_some, Bool.false_eq_true, if_true, if_false, reduceIte, Nat.zero_add, startE, Bool.not_true, Bool.not_false, decide_true, decide_false, irAdd, encQ, o_mulI m1, o_mulI m2, o_mulI m3, md]
theorem less_w (hP : PartsOk P iS iM) {f : Nat} (hf : P.fns[f]? = some ⟨2, 2, irLess iM⟩) {x y : Wt} {p q : Rat} (hp : HW x p) (hq : HW y q) (hw : wOk (wAdd x y) = true) : runF P (n + 3) f [encQ p, encQ q] m = .ok (encQ (p - q)) m := by
  rw [runF_at hf rfl]
  obtain ⟨hx, hy⟩ := wadd_x hw
  obtain ⟨a, b, p1, p2, p3⟩ := hp.nums
  obtain ⟨c, d, q1, q2, q3⟩ := hq.nums
  obtain ⟨l1, l2, l3, l4, l5⟩ := sum_lim p3 q3 hw hx hy
  have hb : (p.den : Int) * q.den ≠ 0 := Int.mul_ne_zero (den_ne p) (den_ne q)
  have e : p - q = Rat.divInt (p.num * q.den - q.num * p.den) ((p.den : Int) * q.den) := by
    rw [← Rat.divInt_sub_divInt _ _ (den_ne p) (den_ne q), rat_num, rat_num]
  rw [e]
  have md := made_big (n := n) (m := m) (t := p.num * q.den - q.num * p.den) hP hb (den_lt p2 q2) (by omega)
  have m1 : MulG p.num q.den := mgN p1 (dn q2) (by omega)
  have m2 : MulG q.num p.den := mgN q1 (dn p2) (by omega)
  have m3 : MulG p.den q.den := mgN (dn p2) (dn q2) (by omega)
  generalize encQ (Rat.divInt (p.num * q.den - q.num * p.den) ((p.den : Int) * q.den)) = R at md
  simp only [fin_rt, fin_nx, fin_exn, seq_nx, seq_rt, seq_exn, seq_bk, seq_ct, bind_ok, bind_exn, out_ok, out_exn, tst_ok, tst_exn, gc_ok_, gc_exn, gcM_same, asB_bl, selB_t, selB_f, selE_t, selE_f, rdV_some, stT_some, e_var, e_con, e_glo, e_nop, t_bin, t_neg, t_not, t_cmp, t_cmp2, cmp2T_t, cmp2T_f, t_and, t_or, t_if, t_idx, t_tup, t_lst, t_call, t_blt, t_mth, mthT_t, es_nil, ts_cons, b_nil, tb_cons, ts_asg, ts_expr, ts_if, ts_ret, s_rais, seqT_nx, seqT_rt, seqT_exn, seqT_bk, seqT_ct, bindT_ok, bindT_exn, outT_ok, outT_exn, tstT_ok, tstT_exn, asBT_bl, c_eqI, c_neI, c_ltI, c_leI, c_gtI, c_geI, o_addI, o_subI, n_I, abs_N, ix_tup, lift_some, at0, at1, at2, at3, asT_var, asT_tup, asTs_nil, asTs_cons, ctl_call, List.getElem?_cons_zero, List.getElem?_cons_succ, List.set_cons_zero, List.set_cons_succ, List.length_cons, List.length_nil, List.map_cons, List.map_nil, List.cons_append, List.nil_append, List.replicate_succ, List.replicate_zero, Nat.reduceAdd, Nat.reduceSub, Nat.reduceLT, Nat.reduceLeDiff, sz, Option.bind_some, Option.bind_none, Option.map_some, Bool.false_eq_true, if_true, if_false, reduceIte, Nat.zero_add, startE, Bool.not_true, Bool.not_false, decide_true, decide_false, irLess, encQ, o_mulI m1, o_mulI m2, o_mulI m3, md]
theorem mul_lim {x y : Wt} {a b c d : Nat} (hx : x = Option.some (a, b) ∨ (x = none ∧ a = 0 ∧ b = 0)) (hy : y = Option.some (c, d) ∨ (y = none ∧ c = 0 ∧ d = 0)) (h : wOk (wMul x y) = true) (hx' : wOk x = true) (hy' : wOk y = true) : a + c ≤ 2000000 ∧ b + d ≤ 8990 := by
  rcases hx with rfl | ⟨rfl, rfl, rfl⟩
  · have := wOk_some hx'
    rcases hy with rfl | ⟨rfl, rfl, rfl⟩
    · have h2 := wOk_some hy'
      have h3 := wOk_some h
      omega
    · omega
  · rcases hy with rfl | ⟨rfl, rfl, rfl⟩
    · have := wOk_some hy'
      omega
    · omega
theorem times_w (hP : PartsOk P iS iM) {f : Nat} (hf : P.fns[f]? = some ⟨2, 2, irTimes iM⟩) {x y : Wt} {p q : Rat} (hp : HW x p) (hq : HW y q) (hx : wOk x = true) (hy : wOk y = true) (hw : wOk (wMul x y) = true) : runF P (n + 3) f [encQ p, encQ q] m = .ok (encQ (p * q)) m := by
  rw [runF_at hf rfl]
  obtain ⟨a, b, p1, p2, p3⟩ := hp.nums
  obtain ⟨c, d, q1, q2, q3⟩ := hq.nums
  obtain ⟨l1, l2⟩ := mul_lim p3 q3 hw hx hy
  have hb : (p.den : Int) * q.den ≠ 0 := Int.mul_ne_zero (den_ne p) (den_ne q)
  have e : p * q = Rat.divInt (p.num * q.num) ((p.den : Int) * q.den) := by
    rw [← Rat.divInt_mul_divInt, rat_num, rat_num]
  rw [e]
  have md := made_big (n := n) (m := m) (t := p.num * q.num) hP hb (den_lt p2 q2) (by omega)
  have m1 : MulG p.num q.num := mgN p1 q1 (by omega)
  have m3 : MulG p.den q.den := mgN (dn p2) (dn q2) (by omega)
  generalize encQ (Rat.divInt (p.num * q.num) ((p.den : Int) * q.den)) = R at md
  simp only [fin_rt, fin_nx, fin_exn, seq_nx, seq_rt, seq_exn, seq_bk, seq_ct, bind_ok, bind_exn, out_ok, out_exn, tst_ok, tst_exn, gc_ok_, gc_exn, gcM_same, asB_bl, selB_t, selB_f, selE_t, selE_f, rdV_some, stT_some, e_var, e_con, e_glo, e_nop, t_bin, t_neg, t_not, t_cmp, t_cmp2, cmp2T_t, cmp2T_f, t_and, t_or, t_if, t_idx, t_tup, t_lst, t_call, t_blt, t_mth, mthT_t, es_nil, ts_cons, b_nil, tb_cons, ts_asg, ts_expr, ts_if, ts_ret, s_rais, seqT_nx, seqT_rt, seqT_exn, seqT_bk, seqT_ct, bindT_ok, bindT_exn, outT_ok, outT_exn, tstT_ok, tstT_exn, asBT_bl, c_eqI, c_neI, c_ltI, c_leI, c_gtI, c_geI, o_addI, o_subI, n_I, abs_N, ix_tup, lift_some, at0, at1, at2, at3, asT_var, asT_tup, asTs_nil, asTs_cons, ctl_call, List.getElem?_cons_zero, List.getElem?_cons_succ, List.set_cons_zero, List.set_cons_succ, List.length_cons, List.length_nil, List.map_cons, List.map_nil, List.cons_append, List.nil_append, List.replicate_succ, List.replicate_zero, Nat.reduceAdd, Nat.reduceSub, Nat.reduceLT, Nat.reduceLeDiff, sz, Option.bind_some, Option.bind_none, Option.map_some, Bool.false_eq_true, if_true, if_false, reduceIte, Nat.zero_add, startE, Bool.not_true, Bool.not_false, decide_true, decide_false, irTimes, encQ, o_mulI m1, o_mulI m3, md]
theorem div_lim {x y : Wt} {a b c d : Nat} (hx : x = Option.some (a, b) ∨ (x = none ∧ a = 0 ∧ b = 0)) (hy : y = Option.some (c, d)) (h : wOk (wDiv x y) = true) (hx' : wOk x = true) (hy' : wOk y = true) (h0 : c ≤ 8990 ∨ x ≠ none) : a + d ≤ 2000000 ∧ b + c ≤ 8990 := by
  subst hy
  have h2 := wOk_some hy'
  rcases hx with rfl | ⟨rfl, rfl, rfl⟩
  · have := wOk_some hx'
    have h3 := wOk_some h
    omega
  · rcases h0 with h0 | h0
    · omega
    · exact absurd rfl h0
theorem over_w (hP : PartsOk P iS iM) {f : Nat} (hf : P.fns[f]? = some ⟨2, 2, irOver iM⟩) {x : Wt} {c d : Nat} {p q : Rat} (hp : HW x p) (hq : HW (some (c, d)) q) (h0 : q ≠ 0) (hx : wOk x = true) (hy : wOk (some (c, d)) = true) (hc : c ≤ 8990) (hw : wOk (wDiv x (some (c, d))) = true) : runF P (n + 3) f [encQ p, encQ q] m = .ok (encQ (p / q)) m := by
  rw [runF_at hf rfl]
  obtain ⟨a, b, p1, p2, p3⟩ := hp.nums
  obtain ⟨q1, q2⟩ := hq
  obtain ⟨l1, l2⟩ := div_lim p3 rfl hw hx hy (.inl hc)
  have hn : q.num ≠ 0 := fun z => h0 (Rat.num_eq_zero.mp z)
  have hb : (p.den : Int) * q.num ≠ 0 := Int.mul_ne_zero (den_ne p) hn
  rw [div_eq]
  have bl : ((p.den : Int) * q.num).natAbs < 2 ^ (b + c + 1) := by
    rw [Int.natAbs_mul, Int.natAbs_natCast]
    refine lt2 ?_
    rw [Nat.pow_add]
    exact Nat.mul_le_mul p2 q1
  have md := made_big (n := n) (m := m) (t := p.num * q.den) hP hb bl (by omega)
  have m1 : MulG p.num q.den := mgN p1 (dn q2) (by omega)
  have m3 : MulG p.den q.num := mgN (dn p2) q1 (by omega)
  generalize encQ (Rat.divInt (p.num * q.den) ((p.den : Int) * q.num)) = R at md
  simp only [fin_rt, fin_nx, fin_exn, seq_nx, seq_rt, seq_exn, seq_bk, seq_ct, bind_ok, bind_exn, out_ok, out_exn, tst_ok, tst_exn, gc_ok_, gc_exn, gcM_same, asB_bl, selB_t, selB_f, selE_t, selE_f, rdV_some, stT_some, e_var, e_con, e_glo, e_nop, t_bin, t_neg, t_not, t_cmp, t_cmp2, cmp2T_t, cmp2T_f, t_and, t_or, t_if, t_idx, t_tup, t_lst, t_call, t_blt, t_mth, mthT_t, es_nil, ts_cons, b_nil, tb_cons, ts_asg, ts_expr, ts_if, ts_ret, s_rais, seqT_nx, seqT_rt, seqT_exn, seqT_bk, seqT_ct, bindT_ok, bindT_exn, outT_ok, outT_exn, tstT_ok, tstT_exn, asBT_bl, c_eqI, c_neI, c_ltI, c_leI, c_gtI, c_geI, o_addI, o_subI, n_I, abs_N, ix_tup, lift_some, at0, at1, at2, at3, asT_var, asT_tup, asTs_nil, asTs_cons, ctl_call, List.getElem?_cons_zero, List.getElem?_cons_succ, List.set_cons_zero, List.set_cons_succ, List.length_cons, List.length_nil, List.map_cons, List.map_nil, List.cons_append, List.nil_append, List.replicate_succ, List.replicate_zero, Nat.reduceAdd, Nat.reduceSub, Nat.reduceLT, Nat.reduceLeDiff, sz, Option.bind_some, Option.bind_none, Option.map_some, Bool.false_eq_true, if_true, if_false, reduceIte, Nat.zero_add, startE, Bool.not_true, Bool.not_false, decide_true, decide_false, irOver, encQ, o_mulI m1, o_mulI m3, md]
end
/-! ### loops -/
/-- a loop over a range, by what holds ahead of each turn -/
theorem for_inv {v : Nat} {b : EnvD → Mem → Out} (I : Nat → EnvD → Mem → Prop) {a : Int} : ∀ (k j : Nat) (env : EnvD) (m : Mem),
    (∀ i env m, j ≤ i → i < j + k → I i env m → v < env.length ∧ ∃ env' m', b (env.set v (some (.int (a + i)))) m = .nx env' m' ∧ I (i + 1) env' m') → I j env m →
    ∃ env' m', forL none (.var v) b ((List.range' j k).map fun (i : Nat) => D.int (a + (i : Nat))) env m = .nx env' m' ∧ I (j + k) env' m'
  | 0, j, env, m, hs, h0 => ⟨env, m, by simp [forL, chkW], h0⟩
  | k + 1, j, env, m, hs, h0 => by
    obtain ⟨hl, env1, m1, e1, h1⟩ := hs j env m (Nat.le_refl _) (by omega) h0
    obtain ⟨env2, m2, e2, h2⟩ := for_inv I k (j + 1) env1 m1 (fun i env m hi1 hi2 hI => hs i env m (by omega) (by omega) hI) h1
    refine ⟨env2, m2, ?_, by rw [show j + (k + 1) = j + 1 + k by omega]; exact h2⟩
    rw [List.range'_succ, List.map_cons]
    simp only [forL, chkW, if_true, asgT, hl, e1, e2]
theorem rng_eq {a : Int} {k : Nat} : rngL a k = (List.range' 0 k).map fun (i : Nat) => D.int (a + (i : Nat)) := by
  unfold rngL
  rw [List.range_eq_range']
theorem for_rng {v : Nat} {b : EnvD → Mem → Out} (I : Nat → EnvD → Mem → Prop) {a : Int} {k : Nat} {env : EnvD} {m : Mem}
    (hs : ∀ i env m, i < k → I i env m → v < env.length ∧ ∃ env' m', b (env.set v (some (.int (a + i)))) m = .nx env' m' ∧ I (i + 1) env' m') (h0 : I 0 env m) :
    ∃ env' m', forL none (.var v) b (rngL a k) env m = .nx env' m' ∧ I k env' m' := by
  rw [rng_eq]
  have := for_inv I (a := a) (v := v) (b := b) k 0 env m (fun i env m _ h hI => hs i env m (by omega) hI) h0
  simpa using this
/-- a comprehension whose item says the same each time -/
theorem comp_map {o : Option (Nat × List D)} {body : D → Mem → Res (Option D)} {g : D → D} {m : Mem} (ho : chkW o m) : ∀ (l : List D), (∀ d ∈ l, body d m = .ok (some (g d)) m) → compL o body l m = .ok (l.map g) m
  | [], _ => by simp only [compL, if_pos ho, List.map_nil]
  | d :: l, h => by
    simp only [compL, if_pos ho, h d List.mem_cons_self, bind_ok, comp_map ho l (fun e he => h e (List.mem_cons_of_mem _ he)), optC, List.map_cons]
end Dat

/-! A16 -/
set_option maxRecDepth 100000
set_option maxHeartbeats 1000000
set_option linter.all false
/-! A16: rows of parts, what k16's defs compute. -/
namespace Dat.K16
open PySem L2
theorem fnA {i : Nat} {d : DefI} (h : LL.defs[i]? = some d) : LL.prog.fns[i]? = some d.fi := by
  show (LL.defs.map DefI.fi)[i]? = _
  rw [List.getElem?_map, h] <;> rfl
theorem okp : okP LL.prog = true := by decide +kernel
theorem parts : PartsOk LL.prog 0 1 := ⟨fnA (d := d_shared) rfl, fnA (d := d_made) rfl, rfl⟩
theorem f_add : LL.prog.fns[2]? = some ⟨2, 2, irAdd 1⟩ := fnA (d := d_add) rfl
theorem f_less : LL.prog.fns[3]? = some ⟨2, 2, irLess 1⟩ := fnA (d := d_less) rfl
theorem f_times : LL.prog.fns[4]? = some ⟨2, 2, irTimes 1⟩ := fnA (d := d_times) rfl
theorem f_over : LL.prog.fns[5]? = some ⟨2, 2, irOver 1⟩ := fnA (d := d_over) rfl
theorem encI (k : Int) : encQ (k : Rat) = .tup [.int k, .int 1] := by
  unfold encQ
  rw [Rat.num_intCast, Rat.den_intCast] <;> rfl
theorem enc0 : encQ 0 = .tup [.int 0, .int 1] := rfl
theorem enc1 : encQ 1 = .tup [.int 1, .int 1] := rfl
theorem ix0 {q : Rat} {m : Mem} : idxD (encQ q) (.int 0) m = .ok (.int q.num) m := by
  unfold encQ
  simp only [fin_rt, fin_nx, fin_exn, seq_nx, seq_rt, seq_exn, seq_bk, seq_ct, bind_ok, bind_exn, out_ok, out_exn, tst_ok, tst_exn, gc_ok_, gc_exn, gcM_same, asB_bl, selB_t, selB_f, selE_t, selE_f, rdV_some, stT_some, e_var, e_con, e_glo, e_nop, t_bin, t_neg, t_not, t_cmp, t_cmp2, cmp2T_t, cmp2T_f, t_and, t_or, t_if, t_idx, t_tup, t_lst, t_call, t_blt, t_mth, mthT_t, es_nil, ts_cons, b_nil, tb_cons, ts_asg, ts_expr, ts_if, ts_ret, s_rais, seqT_nx, seqT_rt, seqT_exn, seqT_bk, seqT_ct, bindT_ok, bindT_exn, outT_ok, outT_exn, tstT_ok, tstT_exn, asBT_bl, c_eqI, c_neI, c_ltI, c_leI, c_gtI, c_geI, o_addI, o_subI, n_I, abs_N, ix_tup, lift_some, at0, at1, at2, at3, asT_var, asT_tup, asTs_nil, asTs_cons, ctl_call, List.getElem?_cons_zero, List.getElem?_cons_succ, List.set_cons_zero, List.set_cons_succ, List.length_cons, List.length_nil, List.map_cons, List.map_nil, List.cons_append, List.nil_append, List.replicate_succ, List.replicate_zero, Nat.reduceAdd, Nat.reduceSub, Nat.reduceLT, Nat.reduceLeDiff, sz, Option.bind_some, Option.bind_none, Option.map_some, Bool.false_eq_true, if_true, if_false, reduceIte, Nat.zero_add, startE, Bool.not_true, Bool.not_false, decide_true, decide_false]
theorem ix1 {q : Rat} {m : Mem} : idxD (encQ q) (.int 1) m = .ok (.int q.den) m := by
  unfold encQ
  simp only [fin_rt, fin_nx, fin_exn, seq_nx, seq_rt, seq_exn, seq_bk, seq_ct, bind_ok, bind_exn, out_ok, out_exn, tst_ok, tst_exn, gc_ok_, gc_exn, gcM_same, asB_bl, selB_t, selB_f, selE_t, selE_f, rdV_some, stT_some, e_var, e_con, e_glo, e_nop, t_bin, t_neg, t_not, t_cmp, t_cmp2, cmp2T_t, cmp2T_f, t_and, t_or, t_if, t_idx, t_tup, t_lst, t_call, t_blt, t_mth, mthT_t, es_nil, ts_cons, b_nil, tb_cons, ts_asg, ts_expr, ts_if, ts_ret, s_rais, seqT_nx, seqT_rt, seqT_exn, seqT_bk, seqT_ct, bindT_ok, bindT_exn, outT_ok, outT_exn, tstT_ok, tstT_exn, asBT_bl, c_eqI, c_neI, c_ltI, c_leI, c_gtI, c_geI, o_addI, o_subI, n_I, abs_N, ix_tup, lift_some, at0, at1, at2, at3, asT_var, asT_tup, asTs_nil, asTs_cons, ctl_call, List.getElem?_cons_zero, List.getElem?_cons_succ, List.set_cons_zero, List.set_cons_succ, List.length_cons, List.length_nil, List.map_cons, List.map_nil, List.cons_append, List.nil_append, List.replicate_succ, List.replicate_zero, Nat.reduceAdd, Nat.reduceSub, Nat.reduceLT, Nat.reduceLeDiff, sz, Option.bind_some, Option.bind_none, Option.map_some, Bool.false_eq_true, if_true, if_false, reduceIte, Nat.zero_add, startE, Bool.not_true, Bool.not_false, decide_true, decide_false]
/-! ### rows -/
def rowD (p : List Rat) : D := .tup (p.map encQ)
theorem at_k {l : List D} {k : Nat} : atI l (k : Int) = l[k]? := at_nat
theorem ixr {p : List Rat} {k : Nat} {m : Mem} (h : k < p.length) : idxD (rowD p) (.int k) m = .ok (encQ (p.getD k 0)) m := by
  unfold rowD
  rw [ix_tup, at_k, List.getElem?_map]
  simp [h, liftO]
theorem ixl {p : List Rat} {k i : Nat} {m : Mem} (hm : m[i]? = some (.lst (p.map encQ))) (h : k < p.length) : idxD (.ref i) (.int k) m = .ok (encQ (p.getD k 0)) m := by
  rw [ix_ref hm, at_k, List.getElem?_map]
  simp [h, liftO]
theorem encU (q : Rat) : D.undr 0 (encQ q) = true := rfl
theorem encUL : ∀ p : List Rat, D.undrL 0 (p.map encQ) = true
  | [] => rfl
  | q :: p => by simp only [List.map_cons, D.undrL, encU, encUL p, Bool.and_self]
theorem rowU (p : List Rat) : D.undr 0 (rowD p) = true := by
  unfold rowD
  simp only [D.undr]
  exact encUL p
theorem szl {n : Nat} (h : n ≤ 200) : n ≤ sizeLine := by
  have : 200 ≤ sizeLine := by decide
  omega
theorem lenR {p : List Rat} {m : Mem} : bltD .len [rowD p] m = .ok (.int p.length) m := by
  unfold rowD
  show Res.ok (D.int ((p.map encQ).length : Nat)) m = _
  rw [List.length_map]
theorem tupl0 {F : List D} {r : Mem} : bltD .tuple [.ref 0] (.lst F :: r) = .ok (.tup F) (.lst F :: r) := rfl
theorem tuplT {F : List D} {m : Mem} : bltD .tuple [.tup F] m = .ok (.tup F) m := rfl
theorem app0 {F : List D} {y : D} {r : Mem} (h : F.length ≤ 100) : mthD .append (.ref 0) [y] (.lst F :: r) = .ok .non (.lst (F ++ [y]) :: r) := by
  have : F.length < sizeLine := by have := szl (n := F.length + 1) (by omega); omega
  simp only [mthD, List.getElem?_cons_zero, if_pos this, List.set_cons_zero]
theorem isL0 {F : List D} {r : Mem} : isL (.lst F :: r) (.ref 0) = true := rfl
theorem gc1 {a : D} {c : Cell} : gcM 1 a [c] = [c] := gcM_same (m := [c])
theorem gcnil {n : Nat} {a : D} : gcM n a [] = [] := by
  unfold gcM
  split <;> simp
theorem gcR {p : List Rat} {m : Mem} : gcM 0 (rowD p) m = [] := by
  unfold gcM
  rw [if_pos ⟨rowU p, by simp⟩]
  rfl
theorem gcR' {l : List D} {m : Mem} (h : D.undrL 0 l = true) : gcM 0 (.tup l) m = [] := by
  unfold gcM
  rw [if_pos ⟨by simpa only [D.undr] using h, by simp⟩]
  rfl
section
variable {C : Ctl} {env env' : EnvD} {m m' : Mem}
theorem i_rng1 {e : IE} {k : Nat} (h : evalE e C env m = .ok (.int k) m) (hk : k ≤ 1000) : evalI (.rng1 [e]) C env m = .ok (rngL 0 k, none) m := by
  simp only [evalI, evalEs, h, bind_ok, rngD]
  rw [if_pos (by omega)]
  simp
theorem i_rng {e f : IE} {a b : Nat} (h : evalE e C env m = .ok (.int a) m) (h2 : evalE f C env m = .ok (.int b) m) (hk : a ≤ 1000 ∧ b ≤ 1000) : evalI (.rng [e, f]) C env m = .ok (rngL a (b - a), none) m := by
  simp only [evalI, evalEs, h, h2, bind_ok, rngD]
  have e : ((b : Int) - a).toNat = b - a := by omega
  rw [if_pos (by omega), e]
theorem s_for_of {t : Tg} {it : II} {B : List IS} {l : List D} (h : evalI it C env m = .ok (l, none) m) (h2 : forL none t (fun e m2 => evalB C B e m2) l env m = .nx env' m') : evalS C (.forS t it B) env m = .nx env' m' := by
  rw [s_for, h, out_ok]
  exact h2
end
/-- a closed call at no memory is a call at any closed memory -/
theorem at_m {m : Mem} (hm : Clo m) {n f : Nat} {ds : List D} {p : List Rat} (hd : D.undrL 0 ds = true) (h : runF LL.prog n f ds [] = .ok (rowD p) []) : runF LL.prog n f ds m = .ok (rowD p) m := run_at hm okp hd h (rowU p)
/-! ### weights of rows -/
def HL (P : List Wt) (p : List Rat) : Prop := ∀ i, HW (P.getD i none) (p.getD i 0)
def wOks (P : List Wt) : Bool := P.all wOk
theorem wOks_at {P : List Wt} (h : wOks P = true) (i : Nat) : wOk (P.getD i none) = true := by
  by_cases hi : i < P.length
  · rw [List.getD_eq_getElem?_getD, List.getElem?_eq_getElem hi]
    exact List.all_eq_true.mp h _ (List.getElem_mem hi)
  · rw [List.getD_eq_getElem?_getD, List.getElem?_eq_none (by omega)]
    rfl
theorem hl_map {n : Nat} {f : Nat → Wt} {g : Nat → Rat} (h : ∀ k, k < n → HW (f k) (g k)) : HL ((List.range n).map f) ((List.range n).map g) := by
  intro i
  by_cases hi : i < n
  · have e1 : ((List.range n).map f).getD i none = f i := by simp [hi]
    have e2 : ((List.range n).map g).getD i 0 = g i := by simp [hi]
    rw [e1, e2]
    exact h i hi
  · have e1 : ((List.range n).map f).getD i none = none := by
      rw [List.getD_eq_getElem?_getD, List.getElem?_eq_none (by simp; omega)]; rfl
    have e2 : ((List.range n).map g).getD i 0 = 0 := by
      rw [List.getD_eq_getElem?_getD, List.getElem?_eq_none (by simp; omega)]; rfl
    rw [e1, e2]
    rfl
/-! ### cut -/
def cutR (p : List Rat) (n : Nat) : List Rat := (List.range n).map fun k => p.getD k 0
def cutW (P : List Wt) (n : Nat) : List Wt := (List.range n).map fun k => P.getD k none
theorem cut_hl {P : List Wt} {p : List Rat} (h : HL P p) (n : Nat) : HL (cutW P n) (cutR p n) := hl_map fun k _ => h k
theorem compB_at {C : Ctl} {tg : Tg} {e : IE} {own : List Nat} {env env2 : EnvD} {d x : D} {m : Mem} (h1 : asgT m tg d (wipeE env own) = some env2) (h2 : evalE e C env2 m = .ok x m) : compB C tg (.con (.bl true)) e own env d m = .ok (some x) m := by
  unfold compB
  simp only [h1, e_con, h2]
theorem comp_rng {C : Ctl} {v : Nat} {e : IE} {own : List Nat} {env : EnvD} {m : Mem} {n : Nat} {g : Nat → D} (hv : v < env.length) (h : ∀ k : Nat, k < n → evalE e C ((wipeE env own).set v (some (.int k))) m = .ok (g k) m) (hl : (wipeE env own).length = env.length) :
    compL none (compB C (.var v) (.con (.bl true)) e own env) (rngL 0 n) m = .ok ((List.range n).map g) m := by
  have gen : ∀ (l : List Nat), (∀ k ∈ l, k < n) → compL none (compB C (.var v) (.con (.bl true)) e own env) (l.map fun (i : Nat) => D.int (0 + (i : Nat))) m = .ok (l.map g) m := by
    intro l
    induction l with
    | nil => intro _; simp [compL, chkW]
    | cons k l ih =>
      intro hk
      have e1 : asgT m (.var v) (D.int (0 + (k : Nat))) (wipeE env own) = some ((wipeE env own).set v (some (.int k))) := by
        rw [asgT, if_pos (by omega), Int.zero_add]
      have e2 := compB_at e1 (h k (hk k List.mem_cons_self))
      simp only [List.map_cons, compL, chkW, if_true, e2, bind_ok, ih fun j hj => hk j (List.mem_cons_of_mem _ hj), optC]
  exact gen (List.range n) fun k hk => List.mem_range.mp hk
theorem e_comp_of {C : Ctl} {env : EnvD} {m : Mem} {tg : Tg} {it : II} {e : IE} {own : List Nat} {l l2 : List D} (h : evalI it C env m = .ok (l, none) m) (h2 : compL none (compB C tg (.con (.bl true)) e own env) l m = .ok l2 m) (hl : l2.length ≤ 200) : evalE (.comp tg it (.con (.bl true)) e own) C env m = .ok (.ref m.length) (m ++ [.lst l2]) := by
  rw [e_comp, h]
  simp only [bind_ok, h2]
  rw [if_pos (szl hl)]
theorem blt_tuple_of {C : Ctl} {env : EnvD} {m : Mem} {e : IE} {l : List D} (h : evalE e C env m = .ok (.ref m.length) (m ++ [.lst l])) : evalE (.blt .tuple [e]) C env m = .ok (.tup l) (m ++ [.lst l]) := by
  have g : bltD .tuple [.ref m.length] (m ++ [Cell.lst l]) = .ok (.tup l) (m ++ [.lst l]) := by
    have : (m ++ [Cell.lst l])[m.length]? = some (.lst l) := by simp
    simp only [bltD, seqD, this]
  rw [e_blt, es_cons, h, bind_ok, es_nil, bind_ok, bind_ok, g]
section
variable {n : Nat}
theorem ret_of {C : Ctl} {env : EnvD} {e : IE} {l : List D} {m' : Mem} (h : evalE e C env [] = .ok (.tup l) m') (hu : D.undrL 0 l = true) : finF 0 (evalB C [.ret e] env []) = .ok (.tup l) [] := by
  rw [b_cons, s_ret, h, out_ok, seq_rt, fin_rt, gcR' hu]
theorem cut_ok0 (p : List Rat) (N : Nat) (hN : N ≤ 100) : runF LL.prog (n + 1) 7 [rowD p, .int N] [] = .ok (rowD (cutR p N)) [] := by
  have hf : LL.prog.fns[7]? = some ⟨2, 3, ir_cut⟩ := fnA (d := d_cut) rfl
  rw [runF_at hf rfl]
  obtain ⟨C, hC⟩ : ∃ C, C = LL.prog.ctl (runF LL.prog n) (runF LL.prog (n - 2)) n := ⟨_, rfl⟩
  rw [← hC]
  have e1 := comp_rng (C := C) (v := 2) (e := .ifE (.cmp .Lt (.var 2) (.blt .len [(.var 0)])) (.idx (.var 0) (.var 2)) (.tup [(.con (.int 0)), (.con (.int 1))])) (own := [2]) (env := [some (rowD p), some (.int N), none]) (m := []) (n := N) (g := fun k => encQ (p.getD k 0)) (by simp) (fun k hk => by
    by_cases h : k < p.length
    · have i := ixr (m := []) h
      have h' : (k : Int) < p.length := by omega
      simp only [fin_rt, fin_nx, fin_exn, seq_nx, seq_rt, seq_exn, seq_bk, seq_ct, bind_ok, bind_exn, out_ok, out_exn, tst_ok, tst_exn, gc_ok_, gc_exn, gcM_same, asB_bl, selB_t, selB_f, selE_t, selE_f, rdV_some, stT_some, e_var, e_con, e_glo, e_nop, t_bin, t_neg, t_not, t_cmp, t_cmp2, cmp2T_t, cmp2T_f, t_and, t_or, t_if, t_idx, t_tup, t_lst, t_call, t_blt, t_mth, mthT_t, es_nil, ts_cons, b_nil, tb_cons, ts_asg, ts_expr, ts_if, ts_ret, s_rais, seqT_nx, seqT_rt, seqT_exn, seqT_bk, seqT_ct, bindT_ok, bindT_exn, outT_ok, outT_exn, tstT_ok, tstT_exn, asBT_bl, c_eqI, c_neI, c_ltI, c_leI, c_gtI, c_geI, o_addI, o_subI, n_I, abs_N, ix_tup, lift_some, at0, at1, at2, at3, asT_var, asT_tup, asTs_nil, asTs_cons, ctl_call, List.getElem?_cons_zero, List.getElem?_cons_succ, List.set_cons_zero, List.set_cons_succ, List.length_cons, List.length_nil, List.map_cons, List.map_nil, List.cons_append, List.nil_append, List.replicate_succ, List.replicate_zero, Nat.reduceAdd, Nat.reduceSub, Nat.reduceLT, Nat.reduceLeDiff, sz, Option.bind_some, Option.bind_none, Option.map_some, Bool.false_eq_true, if_true, if_false, reduceIte, Nat.zero_add, startE, Bool.not_true, Bool.not_false, decide_true, decide_false, wipeE, lenR, h', i]
    · have h' : ¬ (k : Int) < p.length := by omega
      have : p.getD k 0 = 0 := by rw [List.getD_eq_getElem?_getD, List.getElem?_eq_none (by omega)]; rfl
      rw [this, enc0]
      simp only [fin_rt, fin_nx, fin_exn, seq_nx, seq_rt, seq_exn, seq_bk, seq_ct, bind_ok, bind_exn, out_ok, out_exn, tst_ok, tst_exn, gc_ok_, gc_exn, gcM_same, asB_bl, selB_t, selB_f, selE_t, selE_f, rdV_some, stT_some, e_var, e_con, e_glo, e_nop, t_bin, t_neg, t_not, t_cmp, t_cmp2, cmp2T_t, cmp2T_f, t_and, t_or, t_if, t_idx, t_tup, t_lst, t_call, t_blt, t_mth, mthT_t, es_nil, ts_cons, b_nil, tb_cons, ts_asg, ts_expr, ts_if, ts_ret, s_rais, seqT_nx, seqT_rt, seqT_exn, seqT_bk, seqT_ct, bindT_ok, bindT_exn, outT_ok, outT_exn, tstT_ok, tstT_exn, asBT_bl, c_eqI, c_neI, c_ltI, c_leI, c_gtI, c_geI, o_addI, o_subI, n_I, abs_N, ix_tup, lift_some, at0, at1, at2, at3, asT_var, asT_tup, asTs_nil, asTs_cons, ctl_call, List.getElem?_cons_zero, List.getElem?_cons_succ, List.set_cons_zero, List.set_cons_succ, List.length_cons, List.length_nil, List.map_cons, List.map_nil, List.cons_append, List.nil_append, List.replicate_succ, List.replicate_zero, Nat.reduceAdd, Nat.reduceSub, Nat.reduceLT, Nat.reduceLeDiff, sz, Option.bind_some, Option.bind_none, Option.map_some, Bool.false_eq_true, if_true, if_false, reduceIte, Nat.zero_add, startE, Bool.not_true, Bool.not_false, decide_true, decide_false, wipeE, lenR, h']) (by simp [wipeE])
  have e2 : evalI (.rng1 [(.var 1)]) C [some (rowD p), some (.int N), none] [] = .ok (rngL 0 N, none) [] := i_rng1 (by simp only [fin_rt, fin_nx, fin_exn, seq_nx, seq_rt, seq_exn, seq_bk, seq_ct, bind_ok, bind_exn, out_ok, out_exn, tst_ok, tst_exn, gc_ok_, gc_exn, gcM_same, asB_bl, selB_t, selB_f, selE_t, selE_f, rdV_some, stT_some, e_var, e_con, e_glo, e_nop, t_bin, t_neg, t_not, t_cmp, t_cmp2, cmp2T_t, cmp2T_f, t_and, t_or, t_if, t_idx, t_tup, t_lst, t_call, t_blt, t_mth, mthT_t, es_nil, ts_cons, b_nil, tb_cons, ts_asg, ts_expr, ts_if, ts_ret, s_rais, seqT_nx, seqT_rt, seqT_exn, seqT_bk, seqT_ct, bindT_ok, bindT_exn, outT_ok, outT_exn, tstT_ok, tstT_exn, asBT_bl, c_eqI, c_neI, c_ltI, c_leI, c_gtI, c_geI, o_addI, o_subI, n_I, abs_N, ix_tup, lift_some, at0, at1, at2, at3, asT_var, asT_tup, asTs_nil, asTs_cons, ctl_call, List.getElem?_cons_zero, List.getElem?_cons_succ, List.set_cons_zero, List.set_cons_succ, List.length_cons, List.length_nil, List.map_cons, List.map_nil, List.cons_append, List.nil_append, List.replicate_succ, List.replicate_zero, Nat.reduceAdd, Nat.reduceSub, Nat.reduceLT, Nat.reduceLeDiff, sz, Option.bind_some, Option.bind_none, Option.map_some, Bool.false_eq_true, if_true, if_false, reduceIte, Nat.zero_add, startE, Bool.not_true, Bool.not_false, decide_true, decide_false]) (by omega)
  have e3 := blt_tuple_of (e_comp_of e2 e1 (by simp; omega))
  have e4 : (List.range N).map (fun k => encQ (p.getD k 0)) = (cutR p N).map encQ := by
    unfold cutR
    rw [List.map_map]
    rfl
  rw [e4] at e3
  exact ret_of e3 (encUL _)
theorem cut_ok {m : Mem} (hm : Clo m) (p : List Rat) {N : Nat} (hN : N ≤ 100) : runF LL.prog (n + 1) 7 [rowD p, .int N] m = .ok (rowD (cutR p N)) m := at_m hm (by simp only [D.undrL, rowU]; rfl) (cut_ok0 p N hN)
end
end Dat.K16

/-! B16 -/
set_option maxRecDepth 100000
set_option maxHeartbeats 1000000
set_option linter.all false
/-! B16: rows item by item. -/
namespace Dat.K16
open PySem L2
theorem comp_it {C : Ctl} {tg : Tg} {e : IE} {own : List Nat} {env : EnvD} {m : Mem} {it : Nat → D} {E : Nat → EnvD} {g : Nat → D} {n : Nat} (ha : ∀ k, k < n → asgT m tg (it k) (wipeE env own) = some (E k)) (he : ∀ k, k < n → evalE e C (E k) m = .ok (g k) m) :
    compL none (compB C tg (.con (.bl true)) e own env) ((List.range n).map it) m = .ok ((List.range n).map g) m := by
  have gen : ∀ (l : List Nat), (∀ k ∈ l, k < n) → compL none (compB C tg (.con (.bl true)) e own env) (l.map it) m = .ok (l.map g) m := by
    intro l
    induction l with
    | nil => intro _; simp [compL, chkW]
    | cons k l ih =>
      intro hk
      have hk' := hk k List.mem_cons_self
      have e2 := compB_at (ha k hk') (he k hk')
      simp only [List.map_cons, compL, chkW, if_true, e2, bind_ok, ih fun j hj => hk j (List.mem_cons_of_mem _ hj), optC]
  exact gen (List.range n) fun k hk => List.mem_range.mp hk
theorem row_rng (p : List Rat) : p.map encQ = (List.range p.length).map fun k => encQ (p.getD k 0) := by
  apply List.ext_getElem
  · simp
  · intro i h1 h2
    simp at h1 h2
    simp [h1]
theorem zip_rng {α β : Type} {f : Nat → α} {g : Nat → β} {n : Nat} : ((List.range n).map f).zip ((List.range n).map g) = (List.range n).map fun k => (f k, g k) := by
  apply List.ext_getElem
  · simp
  · intro i h1 h2
    simp
theorem idx_rng {α : Type} {f : Nat → α} {n : Nat} : ((List.range n).map f).zipIdx = (List.range n).map fun k => (f k, k) := by
  apply List.ext_getElem
  · simp
  · intro i h1 h2
    simp
def nI (k : Nat) : Rat := ((k : Int) : Rat)
theorem enc_n (k : Nat) : encQ (nI k) = .tup [.int k, .int 1] := encI k
theorem enc_n1 (k : Nat) : encQ (nI (k + 1)) = .tup [.int ((k : Int) + 1), .int 1] := by
  rw [enc_n]
  simp
def iW (k : Nat) : Wt := some (k.log2 + 1, 0)
theorem hw_n (k : Nat) : HW (iW k) (nI k) := by
  refine ⟨?_, by unfold nI; rw [Rat.den_intCast]; decide⟩
  unfold nI
  rw [Rat.num_intCast, Int.natAbs_natCast]
  exact Nat.le_of_lt Nat.lt_log2_self
theorem nI_ne {k : Nat} (h : k ≠ 0) : nI k ≠ 0 := by
  unfold nI
  intro z
  have : ((k : Int) : Rat).num = 0 := by rw [z]; rfl
  rw [Rat.num_intCast] at this
  omega
/-! ### what is computed -/
def plusR (p q : List Rat) : List Rat := (List.range p.length).map fun k => p.getD k 0 + q.getD k 0
def minusR (p q : List Rat) : List Rat := (List.range p.length).map fun k => p.getD k 0 - q.getD k 0
def scaledR (p : List Rat) (a : Rat) : List Rat := (List.range p.length).map fun k => p.getD k 0 * a
def slopeR (p : List Rat) : List Rat := (List.range (p.length - 1)).map fun k => p.getD (k + 1) 0 * nI (k + 1)
def sumsR (p : List Rat) (s : Rat) : List Rat := s :: (List.range p.length).map fun k => p.getD k 0 / nI (k + 1)
def plusW (P Q : List Wt) (n : Nat) : List Wt := (List.range n).map fun k => wAdd (P.getD k none) (Q.getD k none)
def scaledW (P : List Wt) (w : Wt) (n : Nat) : List Wt := (List.range n).map fun k => wMul (P.getD k none) w
def slopeW (P : List Wt) (n : Nat) : List Wt := (List.range (n - 1)).map fun k => wMul (P.getD (k + 1) none) (iW (k + 1))
def sumsW (P : List Wt) (w : Wt) (n : Nat) : List Wt := w :: (List.range n).map fun k => wDiv (P.getD k none) (iW (k + 1))
theorem plus_hl {P Q : List Wt} {p q : List Rat} (hp : HL P p) (hq : HL Q q) : HL (plusW P Q p.length) (plusR p q) := hl_map fun k _ => (hp k).add (hq k)
theorem minus_hl {P Q : List Wt} {p q : List Rat} (hp : HL P p) (hq : HL Q q) : HL (plusW P Q p.length) (minusR p q) := hl_map fun k _ => (hp k).sub (hq k)
theorem scaled_hl {P : List Wt} {w : Wt} {p : List Rat} {a : Rat} (hp : HL P p) (ha : HW w a) : HL (scaledW P w p.length) (scaledR p a) := hl_map fun k _ => (hp k).mul ha
theorem slope_hl {P : List Wt} {p : List Rat} (hp : HL P p) : HL (slopeW P p.length) (slopeR p) := hl_map fun k _ => (hp (k + 1)).mul (hw_n (k + 1))
theorem hl_cons {P : List Wt} {p : List Rat} {w : Wt} {a : Rat} (h : HL P p) (ha : HW w a) : HL (w :: P) (a :: p) := fun i => match i with
  | 0 => ha
  | i + 1 => h i
theorem sums_hl {P : List Wt} {w : Wt} {p : List Rat} {s : Rat} (hp : HL P p) (hs : HW w s) : HL (sumsW P w p.length) (sumsR p s) := hl_cons (hl_map fun k _ => (hp k).div (hw_n (k + 1)) (nI_ne (by omega))) hs
theorem ok_at {n : Nat} {f : Nat → Wt} (h : wOks ((List.range n).map f) = true) {k : Nat} (hk : k < n) : wOk (f k) = true := List.all_eq_true.mp h _ (List.mem_map.mpr ⟨k, List.mem_range.mpr hk, rfl⟩)
theorem iw_ok {k : Nat} (h : k ≤ 100) : wOk (iW k) = true ∧ k.log2 + 1 ≤ 8990 := by
  have : k.log2 ≤ k := Nat.log2_le_self k
  unfold iW wOk
  simp only [Bool.and_eq_true, decide_eq_true_eq]
  omega
section
variable {n : Nat}
/-- zipped rows -/
theorem zip_ok0 {f : Nat} {g : Rat → Rat → Rat} {p q : List Rat} {C : Ctl} (h : ∀ k, k < p.length → C.call f [encQ (p.getD k 0), encQ (q.getD k 0)] [] = .ok (encQ (g (p.getD k 0) (q.getD k 0))) []) (hl : q.length = p.length) (hn : p.length ≤ 100) :
    finF 0 (evalB C [(.ret (.blt .tuple [(.comp (.tup [(.var 2), (.var 3)]) (.zip [(.var 0), (.var 1)]) (.con (.bl true)) (.call f [(.var 2), (.var 3)]) [2, 3])]))] [some (rowD p), some (rowD q), none, none] []) = .ok (rowD ((List.range p.length).map fun k => g (p.getD k 0) (q.getD k 0))) [] := by
  have e1 := comp_it (C := C) (tg := .tup [(.var 2), (.var 3)]) (e := .call f [(.var 2), (.var 3)]) (own := [2, 3]) (env := [some (rowD p), some (rowD q), none, none]) (m := []) (n := p.length) (it := fun k => .tup [encQ (p.getD k 0), encQ (q.getD k 0)])
    (E := fun k => [some (rowD p), some (rowD q), some (encQ (p.getD k 0)), some (encQ (q.getD k 0))]) (g := fun k => encQ (g (p.getD k 0) (q.getD k 0))) (fun k hk => by simp [asgT, asgTs, wipeE, seqD]) (fun k hk => by simp only [fin_rt, fin_nx, fin_exn, seq_nx, seq_rt, seq_exn, seq_bk, seq_ct, bind_ok, bind_exn, out_ok, out_exn, tst_ok, tst_exn, gc_ok_, gc_exn, gcM_same, asB_bl, selB_t, selB_f, selE_t, selE_f, rdV_some, stT_some, e_var, e_con, e_glo, e_nop, t_bin, t_neg, t_not, t_cmp, t_cmp2, cmp2T_t, cmp2T_f, t_and, t_or, t_if, t_idx, t_tup, t_lst, t_call, t_blt, t_mth, mthT_t, es_nil, ts_cons, b_nil, tb_cons, ts_asg, ts_expr, ts_if, ts_ret, s_rais, seqT_nx, seqT_rt, seqT_exn, seqT_bk, seqT_ct, bindT_ok, bindT_exn, outT_ok, outT_exn, tstT_ok, tstT_exn, asBT_bl, c_eqI, c_neI, c_ltI, c_leI, c_gtI, c_geI, o_addI, o_subI, n_I, abs_N, ix_tup, lift_some, at0, at1, at2, at3, asT_var, asT_tup, asTs_nil, asTs_cons, ctl_call, List.getElem?_cons_zero, List.getElem?_cons_succ, List.set_cons_zero, List.set_cons_succ, List.length_cons, List.length_nil, List.map_cons, List.map_nil, List.cons_append, List.nil_append, List.replicate_succ, List.replicate_zero, Nat.reduceAdd, Nat.reduceSub, Nat.reduceLT, Nat.reduceLeDiff, sz, Option.bind_some, Option.bind_none, Option.map_some, Bool.false_eq_true, if_true, if_false, reduceIte, Nat.zero_add, startE, Bool.not_true, Bool.not_false, decide_true, decide_false, h k hk])
  have e2 : evalI (.zip [(.var 0), (.var 1)]) C [some (rowD p), some (rowD q), none, none] [] = .ok ((List.range p.length).map fun k => .tup [encQ (p.getD k 0), encQ (q.getD k 0)], none) [] := by
    have z : zipD [rowD p, rowD q] [] = .ok ((List.range p.length).map fun k => .tup [encQ (p.getD k 0), encQ (q.getD k 0)], none) [] := by
      unfold rowD zipD
      rw [row_rng p, row_rng q, hl]
      simp only [zip_rng, List.map_map]
      rfl
    have e0 : evalEs [(.var 0), (.var 1)] C [some (rowD p), some (rowD q), none, none] [] = .ok [rowD p, rowD q] [] := by simp only [fin_rt, fin_nx, fin_exn, seq_nx, seq_rt, seq_exn, seq_bk, seq_ct, bind_ok, bind_exn, out_ok, out_exn, tst_ok, tst_exn, gc_ok_, gc_exn, gcM_same, asB_bl, selB_t, selB_f, selE_t, selE_f, rdV_some, stT_some, e_var, e_con, e_glo, e_nop, t_bin, t_neg, t_not, t_cmp, t_cmp2, cmp2T_t, cmp2T_f, t_and, t_or, t_if, t_idx, t_tup, t_lst, t_call, t_blt, t_mth, mthT_t, es_nil, ts_cons, b_nil, tb_cons, ts_asg, ts_expr, ts_if, ts_ret, s_rais, seqT_nx, seqT_rt, seqT_exn, seqT_bk, seqT_ct, bindT_ok, bindT_exn, outT_ok, outT_exn, tstT_ok, tstT_exn, asBT_bl, c_eqI, c_neI, c_ltI, c_leI, c_gtI, c_geI, o_addI, o_subI, n_I, abs_N, ix_tup, lift_some, at0, at1, at2, at3, asT_var, asT_tup, asTs_nil, asTs_cons, ctl_call, List.getElem?_cons_zero, List.getElem?_cons_succ, List.set_cons_zero, List.set_cons_succ, List.length_cons, List.length_nil, List.map_cons, List.map_nil, List.cons_append, List.nil_append, List.replicate_succ, List.replicate_zero, Nat.reduceAdd, Nat.reduceSub, Nat.reduceLT, Nat.reduceLeDiff, sz, Option.bind_some, Option.bind_none, Option.map_some, Bool.false_eq_true, if_true, if_false, reduceIte, Nat.zero_add, startE, Bool.not_true, Bool.not_false, decide_true, decide_false]
    simp only [evalI, e0, bind_ok, z]
  have e3 := blt_tuple_of (e_comp_of e2 e1 (by simp; omega))
  have e4 : (List.range p.length).map (fun k => encQ (g (p.getD k 0) (q.getD k 0))) = ((List.range p.length).map fun k => g (p.getD k 0) (q.getD k 0)).map encQ := by
    rw [List.map_map]
    rfl
  rw [e4] at e3
  exact ret_of e3 (encUL _)
theorem plus_ok {m : Mem} (hm : Clo m) {P Q : List Wt} {p q : List Rat} (hp : HL P p) (hq : HL Q q) (hl : q.length = p.length) (hn : p.length ≤ 100) (hw : wOks (plusW P Q p.length) = true) : runF LL.prog (n + 4) 8 [rowD p, rowD q] m = .ok (rowD (plusR p q)) m := by
  refine at_m hm (by simp only [D.undrL, rowU]; rfl) ?_
  have hf : LL.prog.fns[8]? = some ⟨2, 4, ir_plus_row⟩ := fnA (d := d_plus_row) rfl
  rw [runF_at hf rfl]
  exact zip_ok0 (g := fun a b => a + b) (fun k hk => add_w (n := n) parts f_add (hp k) (hq k) (ok_at hw hk)) hl hn
theorem minus_ok {m : Mem} (hm : Clo m) {P Q : List Wt} {p q : List Rat} (hp : HL P p) (hq : HL Q q) (hl : q.length = p.length) (hn : p.length ≤ 100) (hw : wOks (plusW P Q p.length) = true) : runF LL.prog (n + 4) 9 [rowD p, rowD q] m = .ok (rowD (minusR p q)) m := by
  refine at_m hm (by simp only [D.undrL, rowU]; rfl) ?_
  have hf : LL.prog.fns[9]? = some ⟨2, 4, ir_minus_row⟩ := fnA (d := d_minus_row) rfl
  rw [runF_at hf rfl]
  exact zip_ok0 (g := fun a b => a - b) (fun k hk => less_w (n := n) parts f_less (hp k) (hq k) (ok_at hw hk)) hl hn
theorem scaled_ok {m : Mem} (hm : Clo m) {P : List Wt} {w : Wt} {p : List Rat} {a : Rat} (hp : HL P p) (ha : HW w a) (hn : p.length ≤ 100) (hP : wOks P = true) (hw0 : wOk w = true) (hw : wOks (scaledW P w p.length) = true) : runF LL.prog (n + 4) 10 [rowD p, encQ a] m = .ok (rowD (scaledR p a)) m := by
  refine at_m hm (by simp only [D.undrL, rowU]; rfl) ?_
  have hf : LL.prog.fns[10]? = some ⟨2, 3, ir_scaled_row⟩ := fnA (d := d_scaled_row) rfl
  rw [runF_at hf rfl]
  obtain ⟨C, hC⟩ : ∃ C, C = LL.prog.ctl (runF LL.prog (n + 3)) (runF LL.prog (n + 3 - 2)) (n + 3) := ⟨_, rfl⟩
  have cc : C.call = runF LL.prog (n + 3) := by rw [hC]; rfl
  rw [← hC]
  have e1 := comp_it (C := C) (tg := .var 2) (e := .call 4 [(.var 2), (.var 1)]) (own := [2]) (env := [some (rowD p), some (encQ a), none]) (m := []) (n := p.length) (it := fun k => encQ (p.getD k 0))
    (E := fun k => [some (rowD p), some (encQ a), some (encQ (p.getD k 0))]) (g := fun k => encQ (p.getD k 0 * a)) (fun k hk => by simp [asgT, wipeE]) (fun k hk => by
      have t := times_w (n := n) (m := []) parts f_times (hp k) ha (wOks_at hP k) hw0 (ok_at hw hk)
      simp only [fin_rt, fin_nx, fin_exn, seq_nx, seq_rt, seq_exn, seq_bk, seq_ct, bind_ok, bind_exn, out_ok, out_exn, tst_ok, tst_exn, gc_ok_, gc_exn, gcM_same, asB_bl, selB_t, selB_f, selE_t, selE_f, rdV_some, stT_some, e_var, e_con, e_glo, e_nop, t_bin, t_neg, t_not, t_cmp, t_cmp2, cmp2T_t, cmp2T_f, t_and, t_or, t_if, t_idx, t_tup, t_lst, t_call, t_blt, t_mth, mthT_t, es_nil, ts_cons, b_nil, tb_cons, ts_asg, ts_expr, ts_if, ts_ret, s_rais, seqT_nx, seqT_rt, seqT_exn, seqT_bk, seqT_ct, bindT_ok, bindT_exn, outT_ok, outT_exn, tstT_ok, tstT_exn, asBT_bl, c_eqI, c_neI, c_ltI, c_leI, c_gtI, c_geI, o_addI, o_subI, n_I, abs_N, ix_tup, lift_some, at0, at1, at2, at3, asT_var, asT_tup, asTs_nil, asTs_cons, ctl_call, List.getElem?_cons_zero, List.getElem?_cons_succ, List.set_cons_zero, List.set_cons_succ, List.length_cons, List.length_nil, List.map_cons, List.map_nil, List.cons_append, List.nil_append, List.replicate_succ, List.replicate_zero, Nat.reduceAdd, Nat.reduceSub, Nat.reduceLT, Nat.reduceLeDiff, sz, Option.bind_some, Option.bind_none, Option.map_some, Bool.false_eq_true, if_true, if_false, reduceIte, Nat.zero_add, startE, Bool.not_true, Bool.not_false, decide_true, decide_false, cc, t])
  have e2 : evalI (.seq (.var 0)) C [some (rowD p), some (encQ a), none] [] = .ok ((List.range p.length).map fun k => encQ (p.getD k 0), none) [] := by
    simp only [evalI, e_var, List.getElem?_cons_zero, rdV_some, bind_ok]
    rw [← row_rng]
    rfl
  have e3 := blt_tuple_of (e_comp_of e2 e1 (by simp; omega))
  have e4 : (List.range p.length).map (fun k => encQ (p.getD k 0 * a)) = (scaledR p a).map encQ := by
    unfold scaledR
    rw [List.map_map]
    rfl
  rw [e4] at e3
  exact ret_of e3 (encUL _)
theorem enm_row {C : Ctl} {env : EnvD} {m : Mem} {p : List Rat} (h : env[0]? = some (some (rowD p))) : evalI (.enm (.var 0)) C env m = .ok ((List.range p.length).map fun k => .tup [.int (k : Nat), encQ (p.getD k 0)], none) m := by
  simp only [evalI, e_var, h, rdV_some, bind_ok]
  unfold rowD
  simp only [seqW, bind_ok]
  rw [row_rng p, idx_rng, List.map_map]
  rfl
theorem slope_ok {m : Mem} (hm : Clo m) {P : List Wt} {p : List Rat} (hp : HL P p) (hn : p.length ≤ 100) (hP : wOks P = true) (hw : wOks (slopeW P p.length) = true) : runF LL.prog (n + 4) 13 [rowD p] m = .ok (rowD (slopeR p)) m := by
  refine at_m hm (by simp only [D.undrL, rowU]; rfl) ?_
  have hf : LL.prog.fns[13]? = some ⟨1, 3, ir_slope_row⟩ := fnA (d := d_slope_row) rfl
  rw [runF_at hf rfl]
  obtain ⟨C, hC⟩ : ∃ C, C = LL.prog.ctl (runF LL.prog (n + 3)) (runF LL.prog (n + 3 - 2)) (n + 3) := ⟨_, rfl⟩
  have cc : C.call = runF LL.prog (n + 3) := by rw [hC]; rfl
  rw [← hC]
  have e1 := comp_it (C := C) (tg := .tup [(.var 1), (.var 2)]) (e := .call 4 [(.var 2), (.tup [(.var 1), (.con (.int 1))])]) (own := [1, 2]) (env := [some (rowD p), none, none]) (m := []) (n := p.length) (it := fun k => .tup [.int (k : Nat), encQ (p.getD k 0)])
    (E := fun k => [some (rowD p), some (.int (k : Nat)), some (encQ (p.getD k 0))]) (g := fun k => encQ (p.getD k 0 * nI k)) (fun k hk => by simp [asgT, asgTs, wipeE, seqD]) (fun k hk => by
      have t : runF LL.prog (n + 3) 4 [encQ (p.getD k 0), encQ (nI k)] [] = .ok (encQ (p.getD k 0 * nI k)) [] := by
        cases k with
        | zero =>
          have e : wMul (P.getD 0 none) none = none := by cases P.getD 0 none <;> rfl
          exact times_w (n := n) (m := []) (y := none) parts f_times (hp 0) (show nI 0 = 0 from rfl) (wOks_at hP 0) rfl (by rw [e]; rfl)
        | succ k => exact times_w (n := n) (m := []) parts f_times (hp (k + 1)) (hw_n (k + 1)) (wOks_at hP (k + 1)) (iw_ok (by omega)).1 (ok_at hw (show k < p.length - 1 by omega))
      rw [enc_n] at t
      simp only [fin_rt, fin_nx, fin_exn, seq_nx, seq_rt, seq_exn, seq_bk, seq_ct, bind_ok, bind_exn, out_ok, out_exn, tst_ok, tst_exn, gc_ok_, gc_exn, gcM_same, asB_bl, selB_t, selB_f, selE_t, selE_f, rdV_some, stT_some, e_var, e_con, e_glo, e_nop, t_bin, t_neg, t_not, t_cmp, t_cmp2, cmp2T_t, cmp2T_f, t_and, t_or, t_if, t_idx, t_tup, t_lst, t_call, t_blt, t_mth, mthT_t, es_nil, ts_cons, b_nil, tb_cons, ts_asg, ts_expr, ts_if, ts_ret, s_rais, seqT_nx, seqT_rt, seqT_exn, seqT_bk, seqT_ct, bindT_ok, bindT_exn, outT_ok, outT_exn, tstT_ok, tstT_exn, asBT_bl, c_eqI, c_neI, c_ltI, c_leI, c_gtI, c_geI, o_addI, o_subI, n_I, abs_N, ix_tup, lift_some, at0, at1, at2, at3, asT_var, asT_tup, asTs_nil, asTs_cons, ctl_call, List.getElem?_cons_zero, List.getElem?_cons_succ, List.set_cons_zero, List.set_cons_succ, List.length_cons, List.length_nil, List.map_cons, List.map_nil, List.cons_append, List.nil_append, List.replicate_succ, List.replicate_zero, Nat.reduceAdd, Nat.reduceSub, Nat.reduceLT, Nat.reduceLeDiff, sz, Option.bind_some, Option.bind_none, Option.map_some, Bool.false_eq_true, if_true, if_false, reduceIte, Nat.zero_add, startE, Bool.not_true, Bool.not_false, decide_true, decide_false, cc, t])
  have e3 := e_comp_of (enm_row (C := C) (env := [some (rowD p), none, none]) (m := []) (p := p) rfl) e1 (by simp; omega)
  have e4 : ((List.range p.length).map fun k => encQ (p.getD k 0 * nI k)).drop 1 = (slopeR p).map encQ := by
    unfold slopeR
    apply List.ext_getElem
    · simp
    · intro i h1 h2
      simp [Nat.add_comm]
  have e5 : evalE (.blt .tuple [(.slc true false (.comp (.tup [(.var 1), (.var 2)]) (.enm (.var 0)) (.con (.bl true)) (.call 4 [(.var 2), (.tup [(.var 1), (.con (.int 1))])]) [1, 2]) (.con (.int 1)) .nop)]) C [some (rowD p), none, none] [] = .ok (rowD (slopeR p)) [.lst ((List.range p.length).map fun k => encQ (p.getD k 0 * nI k)), .lst ((slopeR p).map encQ)] := by
    have c1 : ∀ l : List D, cutD l (some 1) none = l.drop 1 := fun l => by
      unfold cutD
      rw [HT.sIx_none, show (some (1 : Int)) = some ((1 : Nat) : Int) from rfl, HT.sIx_nat]
      rcases Nat.le_total 1 l.length with h | h
      · rw [Nat.min_eq_left h, List.take_of_length_le (by simp)]
      · rw [Nat.min_eq_right h, Nat.sub_self, List.take_zero, List.drop_eq_nil_of_le h]
    have e6 : evalE (.slc true false (.comp (.tup [(.var 1), (.var 2)]) (.enm (.var 0)) (.con (.bl true)) (.call 4 [(.var 2), (.tup [(.var 1), (.con (.int 1))])]) [1, 2]) (.con (.int 1)) .nop) C [some (rowD p), none, none] [] = .ok (.ref 1) [.lst ((List.range p.length).map fun k => encQ (p.getD k 0 * nI k)), .lst ((slopeR p).map encQ)] := by
      simp only [evalE] at e3 ⊢
      rw [e3]
      simp only [bind_ok, partD, if_true, Bool.false_eq_true, if_false, List.nil_append, slcD, List.length_nil, List.getElem?_cons_zero, c1, e4]
      rfl
    rw [e_blt, es_cons, e6, bind_ok, es_nil, bind_ok, bind_ok]
    rfl
  exact ret_of e5 (encUL _)
theorem sums_ok {m : Mem} (hm : Clo m) {P : List Wt} {p : List Rat} {s : Rat} (hp : HL P p) (hn : p.length ≤ 90) (hP : wOks P = true) (hw : wOks ((List.range p.length).map fun k => wDiv (P.getD k none) (iW (k + 1))) = true) : runF LL.prog (n + 4) 14 [rowD p, encQ s] m = .ok (rowD (sumsR p s)) m := by
  refine at_m hm (by simp only [D.undrL, rowU]; rfl) ?_
  have hf : LL.prog.fns[14]? = some ⟨2, 4, ir_sums_row⟩ := fnA (d := d_sums_row) rfl
  rw [runF_at hf rfl]
  obtain ⟨C, hC⟩ : ∃ C, C = LL.prog.ctl (runF LL.prog (n + 3)) (runF LL.prog (n + 3 - 2)) (n + 3) := ⟨_, rfl⟩
  have cc : C.call = runF LL.prog (n + 3) := by rw [hC]; rfl
  rw [← hC]
  have e1 := comp_it (C := C) (tg := .tup [(.var 2), (.var 3)]) (e := .call 5 [(.var 3), (.tup [(.bin .Add (.var 2) (.con (.int 1))), (.con (.int 1))])]) (own := [2, 3]) (env := [some (rowD p), some (encQ s), none, none]) (m := []) (n := p.length) (it := fun k => .tup [.int (k : Nat), encQ (p.getD k 0)])
    (E := fun k => [some (rowD p), some (encQ s), some (.int (k : Nat)), some (encQ (p.getD k 0))]) (g := fun k => encQ (p.getD k 0 / nI (k + 1))) (fun k hk => by simp [asgT, asgTs, wipeE, seqD]) (fun k hk => by
      have h1 := iw_ok (k := k + 1) (by omega)
      have t := over_w (n := n) (m := []) (c := (k + 1).log2 + 1) (d := 0) parts f_over (hp k) (hw_n (k + 1)) (nI_ne (by omega)) (wOks_at hP k) h1.1 h1.2 (ok_at hw hk)
      rw [enc_n1] at t
      simp only [fin_rt, fin_nx, fin_exn, seq_nx, seq_rt, seq_exn, seq_bk, seq_ct, bind_ok, bind_exn, out_ok, out_exn, tst_ok, tst_exn, gc_ok_, gc_exn, gcM_same, asB_bl, selB_t, selB_f, selE_t, selE_f, rdV_some, stT_some, e_var, e_con, e_glo, e_nop, t_bin, t_neg, t_not, t_cmp, t_cmp2, cmp2T_t, cmp2T_f, t_and, t_or, t_if, t_idx, t_tup, t_lst, t_call, t_blt, t_mth, mthT_t, es_nil, ts_cons, b_nil, tb_cons, ts_asg, ts_expr, ts_if, ts_ret, s_rais, seqT_nx, seqT_rt, seqT_exn, seqT_bk, seqT_ct, bindT_ok, bindT_exn, outT_ok, outT_exn, tstT_ok, tstT_exn, asBT_bl, c_eqI, c_neI, c_ltI, c_leI, c_gtI, c_geI, o_addI, o_subI, n_I, abs_N, ix_tup, lift_some, at0, at1, at2, at3, asT_var, asT_tup, asTs_nil, asTs_cons, ctl_call, List.getElem?_cons_zero, List.getElem?_cons_succ, List.set_cons_zero, List.set_cons_succ, List.length_cons, List.length_nil, List.map_cons, List.map_nil, List.cons_append, List.nil_append, List.replicate_succ, List.replicate_zero, Nat.reduceAdd, Nat.reduceSub, Nat.reduceLT, Nat.reduceLeDiff, sz, Option.bind_some, Option.bind_none, Option.map_some, Bool.false_eq_true, if_true, if_false, reduceIte, Nat.zero_add, startE, Bool.not_true, Bool.not_false, decide_true, decide_false, cc, t])
  have e3 := blt_tuple_of (e_comp_of (enm_row (C := C) (env := [some (rowD p), some (encQ s), none, none]) (m := []) (p := p) rfl) e1 (by simp; omega))
  have e4 : (List.range p.length).map (fun k => encQ (p.getD k 0 / nI (k + 1))) = ((List.range p.length).map fun k => p.getD k 0 / nI (k + 1)).map encQ := by
    rw [List.map_map]
    rfl
  rw [e4] at e3
  have e5 : evalE (.bin .Add (.tup [(.var 1)]) (.blt .tuple [(.comp (.tup [(.var 2), (.var 3)]) (.enm (.var 0)) (.con (.bl true)) (.call 5 [(.var 3), (.tup [(.bin .Add (.var 2) (.con (.int 1))), (.con (.int 1))])]) [2, 3])])) C [some (rowD p), some (encQ s), none, none] [] = .ok (rowD (sumsR p s)) ([] ++ [.lst (((List.range p.length).map fun k => p.getD k 0 / nI (k + 1)).map encQ)]) := by
    have e0 : evalE (.tup [(.var 1)]) C [some (rowD p), some (encQ s), none, none] [] = .ok (.tup [encQ s]) [] := by simp only [fin_rt, fin_nx, fin_exn, seq_nx, seq_rt, seq_exn, seq_bk, seq_ct, bind_ok, bind_exn, out_ok, out_exn, tst_ok, tst_exn, gc_ok_, gc_exn, gcM_same, asB_bl, selB_t, selB_f, selE_t, selE_f, rdV_some, stT_some, e_var, e_con, e_glo, e_nop, t_bin, t_neg, t_not, t_cmp, t_cmp2, cmp2T_t, cmp2T_f, t_and, t_or, t_if, t_idx, t_tup, t_lst, t_call, t_blt, t_mth, mthT_t, es_nil, ts_cons, b_nil, tb_cons, ts_asg, ts_expr, ts_if, ts_ret, s_rais, seqT_nx, seqT_rt, seqT_exn, seqT_bk, seqT_ct, bindT_ok, bindT_exn, outT_ok, outT_exn, tstT_ok, tstT_exn, asBT_bl, c_eqI, c_neI, c_ltI, c_leI, c_gtI, c_geI, o_addI, o_subI, n_I, abs_N, ix_tup, lift_some, at0, at1, at2, at3, asT_var, asT_tup, asTs_nil, asTs_cons, ctl_call, List.getElem?_cons_zero, List.getElem?_cons_succ, List.set_cons_zero, List.set_cons_succ, List.length_cons, List.length_nil, List.map_cons, List.map_nil, List.cons_append, List.nil_append, List.replicate_succ, List.replicate_zero, Nat.reduceAdd, Nat.reduceSub, Nat.reduceLT, Nat.reduceLeDiff, sz, Option.bind_some, Option.bind_none, Option.map_some, Bool.false_eq_true, if_true, if_false, reduceIte, Nat.zero_add, startE, Bool.not_true, Bool.not_false, decide_true, decide_false]
    rw [e_bin, e0, bind_ok, e3, bind_ok]
    simp only [binD, addD]
    rw [if_pos (szl (by simp; omega))]
    rfl
  exact ret_of e5 (encUL _)
end
end Dat.K16

/-! C16 -/
set_option maxRecDepth 100000
set_option maxHeartbeats 1000000
set_option linter.all false
/-! C16: products, backs, powers of rows. -/
namespace Dat.K16
open PySem L2
/-! ### products -/
def convT (p q : List Rat) (k : Nat) : Nat → Rat
  | 0 => 0
  | j + 1 => convT p q k j + p.getD j 0 * q.getD (k - j) 0
def convW (P Q : List Wt) (k : Nat) : Nat → Wt
  | 0 => none
  | j + 1 => wAdd (convW P Q k j) (wMul (P.getD j none) (Q.getD (k - j) none))
def prodR (p q : List Rat) : List Rat := (List.range p.length).map fun k => convT p q k (k + 1)
def prodW (P Q : List Wt) (n : Nat) : List Wt := (List.range n).map fun k => convW P Q k (k + 1)
theorem conv_hw {P Q : List Wt} {p q : List Rat} (hp : HL P p) (hq : HL Q q) (k : Nat) : ∀ j, HW (convW P Q k j) (convT p q k j)
  | 0 => rfl
  | j + 1 => (conv_hw hp hq k j).add ((hp j).mul (hq (k - j)))
theorem prod_hl {P Q : List Wt} {p q : List Rat} (hp : HL P p) (hq : HL Q q) : HL (prodW P Q p.length) (prodR p q) := hl_map fun k _ => conv_hw hp hq k (k + 1)
theorem conv_ok {P Q : List Wt} {k : Nat} : ∀ {n j : Nat}, wOk (convW P Q k n) = true → j ≤ n → wOk (convW P Q k j) = true
  | 0, 0, h, _ => h
  | 0, j + 1, _, hj => absurd hj (by omega)
  | n + 1, j, h, hj => by
    by_cases e : j = n + 1
    · subst e; exact h
    · exact conv_ok (wadd_x h).1 (by omega)
theorem ixr_sub {q : List Rat} {k j : Nat} {m : Mem} (h : j ≤ k) (h2 : k - j < q.length) : idxD (rowD q) (.int ((k : Int) - j)) m = .ok (encQ (q.getD (k - j) 0)) m := by
  have e : (k : Int) - j = ((k - j : Nat) : Int) := by omega
  rw [e]
  exact ixr h2
theorem ixl_sub {q : List Rat} {k j i : Nat} {m : Mem} (hm : m[i]? = some (.lst (q.map encQ))) (h : j ≤ k) (h2 : k - j < q.length) : idxD (.ref i) (.int ((k : Int) - j)) m = .ok (encQ (q.getD (k - j) 0)) m := by
  have e : (k : Int) - j = ((k - j : Nat) : Int) := by omega
  rw [e]
  exact ixl hm h2
def ifP : IS := .ifS (.andE (.cmp .NotEq (.idx (.idx (.var 0) (.var 6)) (.con (.int 0))) (.con (.int 0))) (.cmp .NotEq (.idx (.idx (.var 1) (.bin .Sub (.var 4) (.var 6))) (.con (.int 0))) (.con (.int 0)))) [(.asg (.var 5) (.call 2 [(.var 5), (.call 4 [(.idx (.var 0) (.var 6)), (.idx (.var 1) (.bin .Sub (.var 4) (.var 6)))])]))] []
def envP (P Q : D) (N : Option D) (k : Nat) (t : D) (o : Option D) : EnvD := [some P, some Q, N, some (.ref 0), some (.int k), some t, o]
theorem ifP_any {C : Ctl} {P Q X Y t u s : D} {N : Option D} {k j : Nat} {a b : Int} {m : Mem} (i1 : idxD P (.int j) m = .ok X m) (x0 : idxD X (.int 0) m = .ok (.int a) m) (i2 : idxD Q (.int ((k : Int) - j)) m = .ok Y m) (y0 : idxD Y (.int 0) m = .ok (.int b) m)
    (c4 : C.call 4 [X, Y] m = .ok u m) (c2 : C.call 2 [t, u] m = .ok s m) (h : a = 0 ∨ b = 0 → s = t) : evalS C ifP (envP P Q N k t (some (.int j))) m = .nx (envP P Q N k s (some (.int j))) m := by
  by_cases ha : a = 0
  · rw [h (.inl ha)]
    subst ha
    simp only [fin_rt, fin_nx, fin_exn, seq_nx, seq_rt, seq_exn, seq_bk, seq_ct, bind_ok, bind_exn, out_ok, out_exn, tst_ok, tst_exn, gc_ok_, gc_exn, gcM_same, asB_bl, selB_t, selB_f, selE_t, selE_f, rdV_some, stT_some, e_var, e_con, e_glo, e_nop, t_bin, t_neg, t_not, t_cmp, t_cmp2, cmp2T_t, cmp2T_f, t_and, t_or, t_if, t_idx, t_tup, t_lst, t_call, t_blt, t_mth, mthT_t, es_nil, ts_cons, b_nil, tb_cons, ts_asg, ts_expr, ts_if, ts_ret, s_rais, seqT_nx, seqT_rt, seqT_exn, seqT_bk, seqT_ct, bindT_ok, bindT_exn, outT_ok, outT_exn, tstT_ok, tstT_exn, asBT_bl, c_eqI, c_neI, c_ltI, c_leI, c_gtI, c_geI, o_addI, o_subI, n_I, abs_N, ix_tup, lift_some, at0, at1, at2, at3, asT_var, asT_tup, asTs_nil, asTs_cons, ctl_call, List.getElem?_cons_zero, List.getElem?_cons_succ, List.set_cons_zero, List.set_cons_succ, List.length_cons, List.length_nil, List.map_cons, List.map_nil, List.cons_append, List.nil_append, List.replicate_succ, List.replicate_zero, Nat.reduceAdd, Nat.reduceSub, Nat.reduceLT, Nat.reduceLeDiff, sz, Option.bind_some, Option.bind_none, Option.map_some, Bool.false_eq_true, if_true, if_false, reduceIte, Nat.zero_add, startE, Bool.not_true, Bool.not_false, decide_true, decide_false, ifP, envP, i1, x0]
  · by_cases hb : b = 0
    · rw [h (.inr hb)]
      subst hb
      simp only [fin_rt, fin_nx, fin_exn, seq_nx, seq_rt, seq_exn, seq_bk, seq_ct, bind_ok, bind_exn, out_ok, out_exn, tst_ok, tst_exn, gc_ok_, gc_exn, gcM_same, asB_bl, selB_t, selB_f, selE_t, selE_f, rdV_some, stT_some, e_var, e_con, e_glo, e_nop, t_bin, t_neg, t_not, t_cmp, t_cmp2, cmp2T_t, cmp2T_f, t_and, t_or, t_if, t_idx, t_tup, t_lst, t_call, t_blt, t_mth, mthT_t, es_nil, ts_cons, b_nil, tb_cons, ts_asg, ts_expr, ts_if, ts_ret, s_rais, seqT_nx, seqT_rt, seqT_exn, seqT_bk, seqT_ct, bindT_ok, bindT_exn, outT_ok, outT_exn, tstT_ok, tstT_exn, asBT_bl, c_eqI, c_neI, c_ltI, c_leI, c_gtI, c_geI, o_addI, o_subI, n_I, abs_N, ix_tup, lift_some, at0, at1, at2, at3, asT_var, asT_tup, asTs_nil, asTs_cons, ctl_call, List.getElem?_cons_zero, List.getElem?_cons_succ, List.set_cons_zero, List.set_cons_succ, List.length_cons, List.length_nil, List.map_cons, List.map_nil, List.cons_append, List.nil_append, List.replicate_succ, List.replicate_zero, Nat.reduceAdd, Nat.reduceSub, Nat.reduceLT, Nat.reduceLeDiff, sz, Option.bind_some, Option.bind_none, Option.map_some, Bool.false_eq_true, if_true, if_false, reduceIte, Nat.zero_add, startE, Bool.not_true, Bool.not_false, decide_true, decide_false, ifP, envP, i1, x0, ha, i2, y0]
    · simp only [fin_rt, fin_nx, fin_exn, seq_nx, seq_rt, seq_exn, seq_bk, seq_ct, bind_ok, bind_exn, out_ok, out_exn, tst_ok, tst_exn, gc_ok_, gc_exn, gcM_same, asB_bl, selB_t, selB_f, selE_t, selE_f, rdV_some, stT_some, e_var, e_con, e_glo, e_nop, t_bin, t_neg, t_not, t_cmp, t_cmp2, cmp2T_t, cmp2T_f, t_and, t_or, t_if, t_idx, t_tup, t_lst, t_call, t_blt, t_mth, mthT_t, es_nil, ts_cons, b_nil, tb_cons, ts_asg, ts_expr, ts_if, ts_ret, s_rais, seqT_nx, seqT_rt, seqT_exn, seqT_bk, seqT_ct, bindT_ok, bindT_exn, outT_ok, outT_exn, tstT_ok, tstT_exn, asBT_bl, c_eqI, c_neI, c_ltI, c_leI, c_gtI, c_geI, o_addI, o_subI, n_I, abs_N, ix_tup, lift_some, at0, at1, at2, at3, asT_var, asT_tup, asTs_nil, asTs_cons, ctl_call, List.getElem?_cons_zero, List.getElem?_cons_succ, List.set_cons_zero, List.set_cons_succ, List.length_cons, List.length_nil, List.map_cons, List.map_nil, List.cons_append, List.nil_append, List.replicate_succ, List.replicate_zero, Nat.reduceAdd, Nat.reduceSub, Nat.reduceLT, Nat.reduceLeDiff, sz, Option.bind_some, Option.bind_none, Option.map_some, Bool.false_eq_true, if_true, if_false, reduceIte, Nat.zero_add, startE, Bool.not_true, Bool.not_false, decide_true, decide_false, ifP, envP, i1, x0, ha, i2, y0, hb, c4, c2]
def asN : IS := .asg (.var 5) (.tup [(.con (.int 0)), (.con (.int 1))])
def inP : IS := .forS (.var 6) (.rng1 [(.bin .Add (.var 4) (.con (.int 1)))]) [ifP]
def apP : IS := .expr (.mth .append (.var 3) [(.var 5)])
def outP : IS := .forS (.var 4) (.rng1 [(.var 2)]) [asN, inP, apP]
theorem ir_product_eq : ir_product_row = [(.asg (.var 2) (.blt .len [(.var 0)])), (.asg (.var 3) (.lst [])), outP, (.ret (.blt .tuple [(.var 3)]))] := rfl
section
variable {n : Nat}
theorem inP_ok {C : Ctl} (cc : C.call = runF LL.prog (n + 3)) {P Q : List Wt} {p q : List Rat} (hp : HL P p) (hq : HL Q q) (hP : wOks P = true) (hQ : wOks Q = true) {k : Nat} (hk : k < p.length) (hl : p.length ≤ q.length) (hn : p.length ≤ 90) (hw : wOk (convW P Q k (k + 1)) = true) {N o : Option D} {m : Mem} :
    ∃ o', evalS C inP (envP (rowD p) (rowD q) N k (encQ 0) o) m = .nx (envP (rowD p) (rowD q) N k (encQ (convT p q k (k + 1))) o') m := by
  obtain ⟨env', m', e, hm, o', he⟩ := for_rng (v := 6) (b := fun e m2 => evalB C [ifP] e m2) (a := 0) (k := k + 1) (env := envP (rowD p) (rowD q) N k (encQ 0) o) (m := m) (fun i env m1 => m1 = m ∧ ∃ o, env = envP (rowD p) (rowD q) N k (encQ (convT p q k i)) o)
    (fun i env m1 hi hI => by
      obtain ⟨rfl, o, rfl⟩ := hI
      refine ⟨by simp [envP], _, _, ?_, rfl, some (.int i), rfl⟩
      have w1 := conv_ok hw (show i + 1 ≤ k + 1 by omega)
      have t1 := times_w (n := n) (m := m1) parts f_times (hp i) (hq (k - i)) (wOks_at hP i) (wOks_at hQ (k - i)) (wadd_x w1).2
      have t2 := add_w (n := n) (m := m1) parts f_add (conv_hw hp hq k i) ((hp i).mul (hq (k - i))) w1
      rw [← cc] at t1 t2
      have st := ifP_any (C := C) (N := N) (k := k) (j := i) (ixr (m := m1) (p := p) (show i < p.length by omega)) ix0 (ixr_sub (m := m1) (q := q) (k := k) (j := i) (by omega) (by omega)) ix0 t1 t2 (fun h => by
        congr 1
        rcases h with h | h
        · rw [Rat.num_eq_zero.mp h]; grind
        · rw [Rat.num_eq_zero.mp h]; grind)
      show evalB C [ifP] (envP (rowD p) (rowD q) N k (encQ (convT p q k i)) (some (.int (0 + (i : Nat))))) m1 = _
      rw [Int.zero_add, b_cons, st, seq_nx, b_nil]
      rfl)
    ⟨rfl, o, rfl⟩
  subst hm he
  refine ⟨o', s_for_of (i_rng1 (k := k + 1) ?_ (by omega)) e⟩
  simp only [fin_rt, fin_nx, fin_exn, seq_nx, seq_rt, seq_exn, seq_bk, seq_ct, bind_ok, bind_exn, out_ok, out_exn, tst_ok, tst_exn, gc_ok_, gc_exn, gcM_same, asB_bl, selB_t, selB_f, selE_t, selE_f, rdV_some, stT_some, e_var, e_con, e_glo, e_nop, t_bin, t_neg, t_not, t_cmp, t_cmp2, cmp2T_t, cmp2T_f, t_and, t_or, t_if, t_idx, t_tup, t_lst, t_call, t_blt, t_mth, mthT_t, es_nil, ts_cons, b_nil, tb_cons, ts_asg, ts_expr, ts_if, ts_ret, s_rais, seqT_nx, seqT_rt, seqT_exn, seqT_bk, seqT_ct, bindT_ok, bindT_exn, outT_ok, outT_exn, tstT_ok, tstT_exn, asBT_bl, c_eqI, c_neI, c_ltI, c_leI, c_gtI, c_geI, o_addI, o_subI, n_I, abs_N, ix_tup, lift_some, at0, at1, at2, at3, asT_var, asT_tup, asTs_nil, asTs_cons, ctl_call, List.getElem?_cons_zero, List.getElem?_cons_succ, List.set_cons_zero, List.set_cons_succ, List.length_cons, List.length_nil, List.map_cons, List.map_nil, List.cons_append, List.nil_append, List.replicate_succ, List.replicate_zero, Nat.reduceAdd, Nat.reduceSub, Nat.reduceLT, Nat.reduceLeDiff, sz, Option.bind_some, Option.bind_none, Option.map_some, Bool.false_eq_true, if_true, if_false, reduceIte, Nat.zero_add, startE, Bool.not_true, Bool.not_false, decide_true, decide_false, envP]
  rfl
theorem prod_ok {m : Mem} (hm : Clo m) {P Q : List Wt} {p q : List Rat} (hp : HL P p) (hq : HL Q q) (hP : wOks P = true) (hQ : wOks Q = true) (hl : p.length ≤ q.length) (hn : p.length ≤ 90) (hw : wOks (prodW P Q p.length) = true) : runF LL.prog (n + 4) 11 [rowD p, rowD q] m = .ok (rowD (prodR p q)) m := by
  refine at_m hm (by simp only [D.undrL, rowU]; rfl) ?_
  have hf : LL.prog.fns[11]? = some ⟨2, 7, ir_product_row⟩ := fnA (d := d_product_row) rfl
  rw [runF_at hf rfl]
  obtain ⟨C, hC⟩ : ∃ C, C = LL.prog.ctl (runF LL.prog (n + 3)) (runF LL.prog (n + 3 - 2)) (n + 3) := ⟨_, rfl⟩
  have cc : C.call = runF LL.prog (n + 3) := by rw [hC]; rfl
  rw [← hC]
  show finF 0 (evalB C ir_product_row [some (rowD p), some (rowD q), none, none, none, none, none] []) = _
  obtain ⟨env', m', e, o4, o5, o6, he, hme⟩ := for_rng (v := 4) (b := fun e m2 => evalB C [asN, inP, apP] e m2) (a := 0) (k := p.length) (env := [some (rowD p), some (rowD q), some (.int p.length), some (.ref 0), none, none, none]) (m := [.lst []])
    (fun i env m1 => ∃ o4 o5 o6, env = [some (rowD p), some (rowD q), some (.int p.length), some (.ref 0), o4, o5, o6] ∧ m1 = [.lst (((List.range i).map fun k => convT p q k (k + 1)).map encQ)])
    (fun i env m1 hi hI => by
      obtain ⟨o4, o5, o6, rfl, rfl⟩ := hI
      refine ⟨by simp, ?_⟩
      have a1 : evalS C asN [some (rowD p), some (rowD q), some (.int p.length), some (.ref 0), some (.int (0 + (i : Nat))), o5, o6] [.lst (((List.range i).map fun k => convT p q k (k + 1)).map encQ)] = .nx (envP (rowD p) (rowD q) (some (.int p.length)) i (encQ 0) o6) [.lst (((List.range i).map fun k => convT p q k (k + 1)).map encQ)] := by
        rw [Int.zero_add, enc0]
        simp only [fin_rt, fin_nx, fin_exn, seq_nx, seq_rt, seq_exn, seq_bk, seq_ct, bind_ok, bind_exn, out_ok, out_exn, tst_ok, tst_exn, gc_ok_, gc_exn, gcM_same, asB_bl, selB_t, selB_f, selE_t, selE_f, rdV_some, stT_some, e_var, e_con, e_glo, e_nop, t_bin, t_neg, t_not, t_cmp, t_cmp2, cmp2T_t, cmp2T_f, t_and, t_or, t_if, t_idx, t_tup, t_lst, t_call, t_blt, t_mth, mthT_t, es_nil, ts_cons, b_nil, tb_cons, ts_asg, ts_expr, ts_if, ts_ret, s_rais, seqT_nx, seqT_rt, seqT_exn, seqT_bk, seqT_ct, bindT_ok, bindT_exn, outT_ok, outT_exn, tstT_ok, tstT_exn, asBT_bl, c_eqI, c_neI, c_ltI, c_leI, c_gtI, c_geI, o_addI, o_subI, n_I, abs_N, ix_tup, lift_some, at0, at1, at2, at3, asT_var, asT_tup, asTs_nil, asTs_cons, ctl_call, List.getElem?_cons_zero, List.getElem?_cons_succ, List.set_cons_zero, List.set_cons_succ, List.length_cons, List.length_nil, List.map_cons, List.map_nil, List.cons_append, List.nil_append, List.replicate_succ, List.replicate_zero, Nat.reduceAdd, Nat.reduceSub, Nat.reduceLT, Nat.reduceLeDiff, sz, Option.bind_some, Option.bind_none, Option.map_some, Bool.false_eq_true, if_true, if_false, reduceIte, Nat.zero_add, startE, Bool.not_true, Bool.not_false, decide_true, decide_false, asN, envP, gc1]
      obtain ⟨o', a2⟩ := inP_ok cc hp hq hP hQ hi hl hn (ok_at hw hi) (N := some (.int p.length)) (o := o6) (m := [.lst (((List.range i).map fun k => convT p q k (k + 1)).map encQ)])
      have ap := app0 (F := ((List.range i).map fun k => convT p q k (k + 1)).map encQ) (y := encQ (convT p q i (i + 1))) (r := []) (by simp; omega)
      have a3 : evalS C apP (envP (rowD p) (rowD q) (some (.int p.length)) i (encQ (convT p q i (i + 1))) o') [.lst (((List.range i).map fun k => convT p q k (k + 1)).map encQ)] = .nx (envP (rowD p) (rowD q) (some (.int p.length)) i (encQ (convT p q i (i + 1))) o') [.lst (((List.range i).map fun k => convT p q k (k + 1)).map encQ ++ [encQ (convT p q i (i + 1))])] := by
        generalize ((List.range i).map fun k => convT p q k (k + 1)).map encQ = F at ap
        generalize encQ (convT p q i (i + 1)) = y at ap
        simp only [fin_rt, fin_nx, fin_exn, seq_nx, seq_rt, seq_exn, seq_bk, seq_ct, bind_ok, bind_exn, out_ok, out_exn, tst_ok, tst_exn, gc_ok_, gc_exn, gcM_same, asB_bl, selB_t, selB_f, selE_t, selE_f, rdV_some, stT_some, e_var, e_con, e_glo, e_nop, t_bin, t_neg, t_not, t_cmp, t_cmp2, cmp2T_t, cmp2T_f, t_and, t_or, t_if, t_idx, t_tup, t_lst, t_call, t_blt, t_mth, mthT_t, es_nil, ts_cons, b_nil, tb_cons, ts_asg, ts_expr, ts_if, ts_ret, s_rais, seqT_nx, seqT_rt, seqT_exn, seqT_bk, seqT_ct, bindT_ok, bindT_exn, outT_ok, outT_exn, tstT_ok, tstT_exn, asBT_bl, c_eqI, c_neI, c_ltI, c_leI, c_gtI, c_geI, o_addI, o_subI, n_I, abs_N, ix_tup, lift_some, at0, at1, at2, at3, asT_var, asT_tup, asTs_nil, asTs_cons, ctl_call, List.getElem?_cons_zero, List.getElem?_cons_succ, List.set_cons_zero, List.set_cons_succ, List.length_cons, List.length_nil, List.map_cons, List.map_nil, List.cons_append, List.nil_append, List.replicate_succ, List.replicate_zero, Nat.reduceAdd, Nat.reduceSub, Nat.reduceLT, Nat.reduceLeDiff, sz, Option.bind_some, Option.bind_none, Option.map_some, Bool.false_eq_true, if_true, if_false, reduceIte, Nat.zero_add, startE, Bool.not_true, Bool.not_false, decide_true, decide_false, apP, envP, isL0, ap, gc1]
      refine ⟨_, [.lst (((List.range i).map fun k => convT p q k (k + 1)).map encQ ++ [encQ (convT p q i (i + 1))])], ?_, some (.int i), some (encQ (convT p q i (i + 1))), o', rfl, ?_⟩
      · show evalB C [asN, inP, apP] [some (rowD p), some (rowD q), some (.int p.length), some (.ref 0), some (.int (0 + (i : Nat))), o5, o6] _ = _
        rw [b_cons, a1, seq_nx, b_cons, a2, seq_nx, b_cons, a3, seq_nx, b_nil]
        rfl
      · rw [List.range_succ, List.map_append, List.map_append]
        rfl)
    ⟨none, none, none, rfl, rfl⟩
  subst he hme
  have e2 : evalS C outP [some (rowD p), some (rowD q), some (.int p.length), some (.ref 0), none, none, none] [.lst []] = .nx [some (rowD p), some (rowD q), some (.int p.length), some (.ref 0), o4, o5, o6] [.lst ((prodR p q).map encQ)] := by
    refine s_for_of (i_rng1 (k := p.length) ?_ (by omega)) e
    simp only [fin_rt, fin_nx, fin_exn, seq_nx, seq_rt, seq_exn, seq_bk, seq_ct, bind_ok, bind_exn, out_ok, out_exn, tst_ok, tst_exn, gc_ok_, gc_exn, gcM_same, asB_bl, selB_t, selB_f, selE_t, selE_f, rdV_some, stT_some, e_var, e_con, e_glo, e_nop, t_bin, t_neg, t_not, t_cmp, t_cmp2, cmp2T_t, cmp2T_f, t_and, t_or, t_if, t_idx, t_tup, t_lst, t_call, t_blt, t_mth, mthT_t, es_nil, ts_cons, b_nil, tb_cons, ts_asg, ts_expr, ts_if, ts_ret, s_rais, seqT_nx, seqT_rt, seqT_exn, seqT_bk, seqT_ct, bindT_ok, bindT_exn, outT_ok, outT_exn, tstT_ok, tstT_exn, asBT_bl, c_eqI, c_neI, c_ltI, c_leI, c_gtI, c_geI, o_addI, o_subI, n_I, abs_N, ix_tup, lift_some, at0, at1, at2, at3, asT_var, asT_tup, asTs_nil, asTs_cons, ctl_call, List.getElem?_cons_zero, List.getElem?_cons_succ, List.set_cons_zero, List.set_cons_succ, List.length_cons, List.length_nil, List.map_cons, List.map_nil, List.cons_append, List.nil_append, List.replicate_succ, List.replicate_zero, Nat.reduceAdd, Nat.reduceSub, Nat.reduceLT, Nat.reduceLeDiff, sz, Option.bind_some, Option.bind_none, Option.map_some, Bool.false_eq_true, if_true, if_false, reduceIte, Nat.zero_add, startE, Bool.not_true, Bool.not_false, decide_true, decide_false]
  have g0 : gcM 0 (.ref 0) [Cell.lst []] = [.lst []] := rfl
  have gE := gcR (p := prodR p q) (m := [.lst ((prodR p q).map encQ)])
  rw [ir_product_eq]
  unfold rowD at gE ⊢
  unfold rowD at e2
  have lr := lenR (p := p) (m := [])
  unfold rowD at lr
  simp only [fin_rt, fin_nx, fin_exn, seq_nx, seq_rt, seq_exn, seq_bk, seq_ct, bind_ok, bind_exn, out_ok, out_exn, tst_ok, tst_exn, gc_ok_, gc_exn, gcM_same, asB_bl, selB_t, selB_f, selE_t, selE_f, rdV_some, stT_some, e_var, e_con, e_glo, e_nop, t_bin, t_neg, t_not, t_cmp, t_cmp2, cmp2T_t, cmp2T_f, t_and, t_or, t_if, t_idx, t_tup, t_lst, t_call, t_blt, t_mth, mthT_t, es_nil, ts_cons, b_nil, tb_cons, ts_asg, ts_expr, ts_if, ts_ret, s_rais, seqT_nx, seqT_rt, seqT_exn, seqT_bk, seqT_ct, bindT_ok, bindT_exn, outT_ok, outT_exn, tstT_ok, tstT_exn, asBT_bl, c_eqI, c_neI, c_ltI, c_leI, c_gtI, c_geI, o_addI, o_subI, n_I, abs_N, ix_tup, lift_some, at0, at1, at2, at3, asT_var, asT_tup, asTs_nil, asTs_cons, ctl_call, List.getElem?_cons_zero, List.getElem?_cons_succ, List.set_cons_zero, List.set_cons_succ, List.length_cons, List.length_nil, List.map_cons, List.map_nil, List.cons_append, List.nil_append, List.replicate_succ, List.replicate_zero, Nat.reduceAdd, Nat.reduceSub, Nat.reduceLT, Nat.reduceLeDiff, sz, Option.bind_some, Option.bind_none, Option.map_some, Bool.false_eq_true, if_true, if_false, reduceIte, Nat.zero_add, startE, Bool.not_true, Bool.not_false, decide_true, decide_false, lr, gcnil, g0, e2, tupl0, gE]
end
end Dat.K16

/-! D16 -/
set_option maxRecDepth 100000
set_option maxHeartbeats 1000000
set_option linter.all false
/-! D16: backs and powers of rows. -/
namespace Dat.K16
open PySem L2
/-! ### backs -/
def backT (p F : List Rat) (k : Nat) : Nat → Rat
  | 0 => if k = 0 then 1 else 0
  | j + 1 => backT p F k j - p.getD (j + 1) 0 * F.getD (k - (j + 1)) 0
def backTW (P F : List Wt) (k : Nat) : Nat → Wt
  | 0 => if k = 0 then some (0, 0) else none
  | j + 1 => wAdd (backTW P F k j) (wMul (P.getD (j + 1) none) (F.getD (k - (j + 1)) none))
def backL (p : List Rat) : Nat → List Rat
  | 0 => []
  | k + 1 => backL p k ++ [backT p (backL p k) k k / p.getD 0 0]
def backLW (P : List Wt) : Nat → List Wt
  | 0 => []
  | k + 1 => backLW P k ++ [wDiv (backTW P (backLW P k) k k) (P.getD 0 none)]
theorem backL_len (p : List Rat) : ∀ k, (backL p k).length = k
  | 0 => rfl
  | k + 1 => by simp [backL, backL_len p k]
theorem backLW_len (P : List Wt) : ∀ k, (backLW P k).length = k
  | 0 => rfl
  | k + 1 => by simp [backLW, backLW_len P k]
theorem backT_hw {P F : List Wt} {p f : List Rat} (hp : HL P p) (hf : HL F f) (k : Nat) : ∀ j, HW (backTW P F k j) (backT p f k j)
  | 0 => by
    unfold backTW backT
    split
    · exact ⟨by decide, by decide⟩
    · rfl
  | j + 1 => (backT_hw hp hf k j).sub ((hp (j + 1)).mul (hf (k - (j + 1))))
theorem hl_snoc {P : List Wt} {p : List Rat} {w : Wt} {x : Rat} (h : HL P p) (hl : P.length = p.length) (hw : HW w x) : HL (P ++ [w]) (p ++ [x]) := by
  intro i
  by_cases h1 : i < p.length
  · have e1 : (P ++ [w]).getD i none = P.getD i none := by simp only [List.getD_eq_getElem?_getD, List.getElem?_append_left (show i < P.length by omega)]
    have e2 : (p ++ [x]).getD i 0 = p.getD i 0 := by simp only [List.getD_eq_getElem?_getD, List.getElem?_append_left h1]
    rw [e1, e2]
    exact h i
  · by_cases h2 : i = p.length
    · subst h2
      have e1 : (P ++ [w]).getD p.length none = w := by rw [← hl]; simp
      have e2 : (p ++ [x]).getD p.length 0 = x := by simp
      rw [e1, e2]
      exact hw
    · have e1 : (P ++ [w]).getD i none = none := by rw [List.getD_eq_getElem?_getD, List.getElem?_eq_none (by simp; omega)]; rfl
      have e2 : (p ++ [x]).getD i 0 = 0 := by rw [List.getD_eq_getElem?_getD, List.getElem?_eq_none (by simp; omega)]; rfl
      rw [e1, e2]
      rfl
theorem hl_nil : HL [] [] := fun i => rfl
theorem backL_hl {P : List Wt} {p : List Rat} (hp : HL P p) (h0 : p.getD 0 0 ≠ 0) : ∀ k, HL (backLW P k) (backL p k)
  | 0 => hl_nil
  | k + 1 => hl_snoc (backL_hl hp h0 k) (by rw [backL_len, backLW_len]) ((backT_hw hp (backL_hl hp h0 k) k k).div (hp 0) h0)
def backR (p : List Rat) : List Rat := backL p p.length
def backW (P : List Wt) (n : Nat) : List Wt := backLW P n
theorem backT_ok {P F : List Wt} {k : Nat} : ∀ {n j : Nat}, wOk (backTW P F k n) = true → j ≤ n → wOk (backTW P F k j) = true
  | 0, 0, h, _ => h
  | 0, j + 1, _, hj => absurd hj (by omega)
  | n + 1, j, h, hj => by
    by_cases e : j = n + 1
    · subst e; exact h
    · exact backT_ok (wadd_x h).1 (by omega)
/-- all that backs need of weights -/
def backO (P : List Wt) (n : Nat) : Bool := (List.range n).all fun k => wOk (backTW P (backLW P k) k k) && wOks (backLW P (k + 1))
/-- shaped data of rows -/
def pyQ (q : Rat) : PyData := .tuple [.int q.num, .int q.den]
theorem toPy0_row : ∀ p : List Rat, toPy0L (p.map encQ) = some (p.map pyQ)
  | [] => rfl
  | q :: p => by
    have : toPy0 (encQ q) = some (pyQ q) := rfl
    simp only [List.map_cons, toPy0L, this, toPy0_row p]
theorem lay_row : ∀ p : List Rat, PyData.canLayAll0 (p.map pyQ) = true ∧ PyData.depthAll (p.map pyQ) ≤ 1
  | [] => ⟨rfl, by decide⟩
  | q :: p => by
    obtain ⟨h1, h2⟩ := lay_row p
    have e1 : PyData.canLay0 (pyQ q) = true := by
      have := (lay_ints [q.num, (q.den : Int)]).1
      simpa only [pyQ, PyData.canLay0, List.map_cons, List.map_nil] using this
    have e2 : PyData.depth (pyQ q) ≤ 1 := by
      have := (lay_ints [q.num, (q.den : Int)]).2
      simp only [List.map_cons, List.map_nil] at this
      simp only [pyQ, PyData.depth, this]
      decide
    refine ⟨by simp only [List.map_cons, PyData.canLayAll0, e1, h1, Bool.and_self], ?_⟩
    simp only [List.map_cons, PyData.depthAll]
    omega
theorem shaped_row (p : List Rat) : SeqAt.shaped (.tuple (p.map pyQ)) = true := by
  obtain ⟨h1, h2⟩ := lay_row p
  unfold SeqAt.shaped
  simp only [PyData.canLay0, PyData.depth, h1, Bool.true_and]
  exact decide_eq_true (by omega)
theorem eqv_row : ∀ p : List Rat, PyData.eqvAll (p.map pyQ) (p.map pyQ) = true
  | [] => by simp [PyData.eqvAll]
  | q :: p => by
    have : PyData.eqv (pyQ q) (pyQ q) = true := by
      simp [pyQ, PyData.eqv, PyData.eqvAll, BEq.beq]
    simp only [List.map_cons, PyData.eqvAll, eqv_row p, this, Bool.and_self]
theorem ne_row {p q : List Rat} {m : Mem} (h : p = q) : cmpD .NotEq (rowD p) (rowD q) m = .ok (.bl false) m := by
  subst h
  have e : eqD m (rowD p) (rowD p) = some true := by
    unfold eqD rowD
    simp only [toPy, toPy0, toPy0_row, Option.map_some]
    rw [if_pos ⟨shaped_row p, shaped_row p⟩]
    simp only [PyData.eqv, eqv_row]
  simp only [cmpD, e, liftO, Option.map_some, Bool.not_true]
theorem eq_emp {p : List Rat} {m : Mem} (h : p ≠ []) : cmpD .Eq (rowD p) (.tup []) m = .ok (.bl false) m := by
  have e : eqD m (rowD p) (.tup []) = some false := by
    unfold eqD rowD
    simp only [toPy, toPy0, toPy0_row, toPy0L, Option.map_some]
    rw [if_pos ⟨shaped_row p, rfl⟩]
    cases p with
    | nil => exact absurd rfl h
    | cons a p => simp [PyData.eqv, PyData.eqvAll]
  simp only [cmpD, e, liftO, Option.map_some]
def bInit : IS := .asg (.var 3) (.tup [(.blt .int [(.cmp .Eq (.var 2) (.con (.int 0)))]), (.con (.int 1))])
def bStep : IS := .asg (.var 3) (.call 3 [(.var 3), (.call 4 [(.idx (.var 0) (.var 4)), (.idx (.var 1) (.bin .Sub (.var 2) (.var 4)))])])
def bIn : IS := .forS (.var 4) (.rng [(.con (.int 1)), (.bin .Add (.var 2) (.con (.int 1)))]) [bStep]
def bApp : IS := .expr (.mth .append (.var 1) [(.call 5 [(.var 3), (.idx (.var 0) (.con (.int 0)))])])
def bOut : IS := .forS (.var 2) (.rng1 [(.blt .len [(.var 0)])]) [bInit, bIn, bApp]
def bTest : IS := .ifS (.orE (.cmp .Eq (.var 0) (.tup [])) (.cmp .Eq (.idx (.idx (.var 0) (.con (.int 0))) (.con (.int 0))) (.con (.int 0)))) [(.rais "NoWay")] []
theorem ir_back_eq : ir_back_row = [bTest, (.asg (.var 1) (.lst [])), bOut, (.ret (.blt .tuple [(.var 1)]))] := rfl
def envB (P : D) (k : Nat) (t : D) (o : Option D) : EnvD := [some P, some (.ref 0), some (.int k), some t, o]
section
variable {n : Nat}
theorem bIn_ok {C : Ctl} (cc : C.call = runF LL.prog (n + 3)) {P F : List Wt} {p f : List Rat} (hp : HL P p) (hf : HL F f) (hP : wOks P = true) (hF : wOks F = true) {k : Nat} (hk : k < p.length) (hl : f.length = k) (hn : p.length ≤ 90) (hw : wOk (backTW P F k k) = true) {o : Option D} :
    ∃ o', evalS C bIn (envB (rowD p) k (encQ (backT p f k 0)) o) [.lst (f.map encQ)] = .nx (envB (rowD p) k (encQ (backT p f k k)) o') [.lst (f.map encQ)] := by
  obtain ⟨env', m', e, hm, o', he⟩ := for_rng (v := 4) (b := fun e m2 => evalB C [bStep] e m2) (a := ((1 : Nat) : Int)) (k := k + 1 - 1) (env := envB (rowD p) k (encQ (backT p f k 0)) o) (m := [.lst (f.map encQ)]) (fun i env m1 => m1 = [.lst (f.map encQ)] ∧ ∃ o, env = envB (rowD p) k (encQ (backT p f k i)) o)
    (fun i env m1 hi hI => by
      obtain ⟨rfl, o, rfl⟩ := hI
      have e1 : ((1 : Nat) : Int) + (i : Nat) = ((i + 1 : Nat) : Int) := by omega
      rw [e1]
      refine ⟨by simp [envB], envB (rowD p) k (encQ (backT p f k (i + 1))) (some (.int (i + 1 : Nat))), _, ?_, rfl, _, rfl⟩
      have w1 := backT_ok hw (show i + 1 ≤ k by omega)
      have t1 := times_w (n := n) (m := [.lst (f.map encQ)]) parts f_times (hp (i + 1)) (hf (k - (i + 1))) (wOks_at hP _) (wOks_at hF _) (wadd_x w1).2
      have t2 := less_w (n := n) (m := [.lst (f.map encQ)]) parts f_less (backT_hw hp hf k i) ((hp (i + 1)).mul (hf (k - (i + 1)))) w1
      rw [← cc] at t1 t2
      have i1 := ixr (m := [.lst (f.map encQ)]) (p := p) (show i + 1 < p.length by omega)
      have i2 := ixl_sub (m := [.lst (f.map encQ)]) (q := f) (k := k) (j := i + 1) (i := 0) rfl (by omega) (by omega)
      have st : backT p f k (i + 1) = backT p f k i - p.getD (i + 1) 0 * f.getD (k - (i + 1)) 0 := rfl
      rw [← st] at t2
      generalize p.getD (i + 1) 0 * f.getD (k - (i + 1)) 0 = u at t1 t2
      generalize f.map encQ = FF at *
      generalize (i + 1 : Nat) = j at *
      show evalB C [bStep] (envB (rowD p) k (encQ (backT p f k i)) (some (.int (j : Nat)))) [.lst FF] = _
      simp only [fin_rt, fin_nx, fin_exn, seq_nx, seq_rt, seq_exn, seq_bk, seq_ct, bind_ok, bind_exn, out_ok, out_exn, tst_ok, tst_exn, gc_ok_, gc_exn, gcM_same, asB_bl, selB_t, selB_f, selE_t, selE_f, rdV_some, stT_some, e_var, e_con, e_glo, e_nop, t_bin, t_neg, t_not, t_cmp, t_cmp2, cmp2T_t, cmp2T_f, t_and, t_or, t_if, t_idx, t_tup, t_lst, t_call, t_blt, t_mth, mthT_t, es_nil, ts_cons, b_nil, tb_cons, ts_asg, ts_expr, ts_if, ts_ret, s_rais, seqT_nx, seqT_rt, seqT_exn, seqT_bk, seqT_ct, bindT_ok, bindT_exn, outT_ok, outT_exn, tstT_ok, tstT_exn, asBT_bl, c_eqI, c_neI, c_ltI, c_leI, c_gtI, c_geI, o_addI, o_subI, n_I, abs_N, ix_tup, lift_some, at0, at1, at2, at3, asT_var, asT_tup, asTs_nil, asTs_cons, ctl_call, List.getElem?_cons_zero, List.getElem?_cons_succ, List.set_cons_zero, List.set_cons_succ, List.length_cons, List.length_nil, List.map_cons, List.map_nil, List.cons_append, List.nil_append, List.replicate_succ, List.replicate_zero, Nat.reduceAdd, Nat.reduceSub, Nat.reduceLT, Nat.reduceLeDiff, sz, Option.bind_some, Option.bind_none, Option.map_some, Bool.false_eq_true, if_true, if_false, reduceIte, Nat.zero_add, startE, Bool.not_true, Bool.not_false, decide_true, decide_false, bStep, envB, i1, i2, t1, t2, gc1])
    ⟨rfl, o, rfl⟩
  subst hm he
  refine ⟨o', ?_⟩
  have e2 : envB (rowD p) k (encQ (backT p f k (k + 1 - 1))) o' = envB (rowD p) k (encQ (backT p f k k)) o' := rfl
  rw [e2] at e
  refine s_for_of (i_rng (a := 1) (b := k + 1) ?_ ?_ (by omega)) e
  · simp only [fin_rt, fin_nx, fin_exn, seq_nx, seq_rt, seq_exn, seq_bk, seq_ct, bind_ok, bind_exn, out_ok, out_exn, tst_ok, tst_exn, gc_ok_, gc_exn, gcM_same, asB_bl, selB_t, selB_f, selE_t, selE_f, rdV_some, stT_some, e_var, e_con, e_glo, e_nop, t_bin, t_neg, t_not, t_cmp, t_cmp2, cmp2T_t, cmp2T_f, t_and, t_or, t_if, t_idx, t_tup, t_lst, t_call, t_blt, t_mth, mthT_t, es_nil, ts_cons, b_nil, tb_cons, ts_asg, ts_expr, ts_if, ts_ret, s_rais, seqT_nx, seqT_rt, seqT_exn, seqT_bk, seqT_ct, bindT_ok, bindT_exn, outT_ok, outT_exn, tstT_ok, tstT_exn, asBT_bl, c_eqI, c_neI, c_ltI, c_leI, c_gtI, c_geI, o_addI, o_subI, n_I, abs_N, ix_tup, lift_some, at0, at1, at2, at3, asT_var, asT_tup, asTs_nil, asTs_cons, ctl_call, List.getElem?_cons_zero, List.getElem?_cons_succ, List.set_cons_zero, List.set_cons_succ, List.length_cons, List.length_nil, List.map_cons, List.map_nil, List.cons_append, List.nil_append, List.replicate_succ, List.replicate_zero, Nat.reduceAdd, Nat.reduceSub, Nat.reduceLT, Nat.reduceLeDiff, sz, Option.bind_some, Option.bind_none, Option.map_some, Bool.false_eq_true, if_true, if_false, reduceIte, Nat.zero_add, startE, Bool.not_true, Bool.not_false, decide_true, decide_false]
    rfl
  · simp only [fin_rt, fin_nx, fin_exn, seq_nx, seq_rt, seq_exn, seq_bk, seq_ct, bind_ok, bind_exn, out_ok, out_exn, tst_ok, tst_exn, gc_ok_, gc_exn, gcM_same, asB_bl, selB_t, selB_f, selE_t, selE_f, rdV_some, stT_some, e_var, e_con, e_glo, e_nop, t_bin, t_neg, t_not, t_cmp, t_cmp2, cmp2T_t, cmp2T_f, t_and, t_or, t_if, t_idx, t_tup, t_lst, t_call, t_blt, t_mth, mthT_t, es_nil, ts_cons, b_nil, tb_cons, ts_asg, ts_expr, ts_if, ts_ret, s_rais, seqT_nx, seqT_rt, seqT_exn, seqT_bk, seqT_ct, bindT_ok, bindT_exn, outT_ok, outT_exn, tstT_ok, tstT_exn, asBT_bl, c_eqI, c_neI, c_ltI, c_leI, c_gtI, c_geI, o_addI, o_subI, n_I, abs_N, ix_tup, lift_some, at0, at1, at2, at3, asT_var, asT_tup, asTs_nil, asTs_cons, ctl_call, List.getElem?_cons_zero, List.getElem?_cons_succ, List.set_cons_zero, List.set_cons_succ, List.length_cons, List.length_nil, List.map_cons, List.map_nil, List.cons_append, List.nil_append, List.replicate_succ, List.replicate_zero, Nat.reduceAdd, Nat.reduceSub, Nat.reduceLT, Nat.reduceLeDiff, sz, Option.bind_some, Option.bind_none, Option.map_some, Bool.false_eq_true, if_true, if_false, reduceIte, Nat.zero_add, startE, Bool.not_true, Bool.not_false, decide_true, decide_false, envB]
    rfl
theorem back_ok {m : Mem} (hm : Clo m) {P : List Wt} {p : List Rat} {c d : Nat} (hp : HL P p) (hP : wOks P = true) (h0 : p.getD 0 0 ≠ 0) (hP0 : P.getD 0 none = some (c, d)) (hc : c ≤ 8990) (hn : p.length ≤ 90) (hw : backO P p.length = true) : runF LL.prog (n + 4) 12 [rowD p] m = .ok (rowD (backR p)) m := by
  refine at_m hm (by simp only [D.undrL, rowU]; rfl) ?_
  have hf : LL.prog.fns[12]? = some ⟨1, 5, ir_back_row⟩ := fnA (d := d_back_row) rfl
  rw [runF_at hf rfl]
  obtain ⟨C, hC⟩ : ∃ C, C = LL.prog.ctl (runF LL.prog (n + 3)) (runF LL.prog (n + 3 - 2)) (n + 3) := ⟨_, rfl⟩
  have cc : C.call = runF LL.prog (n + 3) := by rw [hC]; rfl
  rw [← hC]
  have hne : p ≠ [] := fun z => h0 (by rw [z]; rfl)
  have hl0 : 0 < p.length := List.length_pos_iff.mpr hne
  have b1 : evalS C bTest [some (rowD p), none, none, none, none] [] = .nx [some (rowD p), none, none, none, none] [] := by
    have i0 := ixr (m := []) hl0
    rw [show (((0 : Nat) : Nat) : Int) = 0 from rfl] at i0
    have n0 : (p.getD 0 0).num ≠ 0 := fun z => h0 (Rat.num_eq_zero.mp z)
    simp only [fin_rt, fin_nx, fin_exn, seq_nx, seq_rt, seq_exn, seq_bk, seq_ct, bind_ok, bind_exn, out_ok, out_exn, tst_ok, tst_exn, gc_ok_, gc_exn, gcM_same, asB_bl, selB_t, selB_f, selE_t, selE_f, rdV_some, stT_some, e_var, e_con, e_glo, e_nop, t_bin, t_neg, t_not, t_cmp, t_cmp2, cmp2T_t, cmp2T_f, t_and, t_or, t_if, t_idx, t_tup, t_lst, t_call, t_blt, t_mth, mthT_t, es_nil, ts_cons, b_nil, tb_cons, ts_asg, ts_expr, ts_if, ts_ret, s_rais, seqT_nx, seqT_rt, seqT_exn, seqT_bk, seqT_ct, bindT_ok, bindT_exn, outT_ok, outT_exn, tstT_ok, tstT_exn, asBT_bl, c_eqI, c_neI, c_ltI, c_leI, c_gtI, c_geI, o_addI, o_subI, n_I, abs_N, ix_tup, lift_some, at0, at1, at2, at3, asT_var, asT_tup, asTs_nil, asTs_cons, ctl_call, List.getElem?_cons_zero, List.getElem?_cons_succ, List.set_cons_zero, List.set_cons_succ, List.length_cons, List.length_nil, List.map_cons, List.map_nil, List.cons_append, List.nil_append, List.replicate_succ, List.replicate_zero, Nat.reduceAdd, Nat.reduceSub, Nat.reduceLT, Nat.reduceLeDiff, sz, Option.bind_some, Option.bind_none, Option.map_some, Bool.false_eq_true, if_true, if_false, reduceIte, Nat.zero_add, startE, Bool.not_true, Bool.not_false, decide_true, decide_false, bTest, eq_emp hne, i0, ix0, n0, gcnil]
  obtain ⟨env', m', e, o2, o3, o4, he, hme⟩ := for_rng (v := 2) (b := fun e m2 => evalB C [bInit, bIn, bApp] e m2) (a := 0) (k := p.length) (env := [some (rowD p), some (.ref 0), none, none, none]) (m := [.lst []])
    (fun i env m1 => ∃ o2 o3 o4, env = [some (rowD p), some (.ref 0), o2, o3, o4] ∧ m1 = [.lst ((backL p i).map encQ)])
    (fun i env m1 hi hI => by
      obtain ⟨o2, o3, o4, rfl, rfl⟩ := hI
      refine ⟨by simp, ?_⟩
      have hO := List.all_eq_true.mp hw i (List.mem_range.mpr hi)
      simp only [Bool.and_eq_true] at hO
      obtain ⟨hO1, hO2⟩ := hO
      have hlf := backL_len p i
      have hF : wOks (backLW P i) = true := by
        unfold wOks at hO2 ⊢
        rw [backLW, List.all_append, Bool.and_eq_true] at hO2
        exact hO2.1
      have hD : wOk (wDiv (backTW P (backLW P i) i i) (some (c, d))) = true := by
        unfold wOks at hO2
        rw [backLW, List.all_append, Bool.and_eq_true] at hO2
        rw [hP0] at hO2
        simpa using hO2.2
      have hHL := backL_hl hp h0 i
      have a1 : evalS C bInit [some (rowD p), some (.ref 0), some (.int (0 + (i : Nat))), o3, o4] [.lst ((backL p i).map encQ)] = .nx (envB (rowD p) i (encQ (backT p (backL p i) i 0)) o4) [.lst ((backL p i).map encQ)] := by
        have q : encQ (backT p (backL p i) i 0) = .tup [.int (if decide ((i : Int) = 0) = true then 1 else 0), .int 1] := by
          unfold backT
          by_cases h : i = 0
          · simp [h, enc1]
          · simp [h, enc0]
        rw [Int.zero_add, q]
        simp only [fin_rt, fin_nx, fin_exn, seq_nx, seq_rt, seq_exn, seq_bk, seq_ct, bind_ok, bind_exn, out_ok, out_exn, tst_ok, tst_exn, gc_ok_, gc_exn, gcM_same, asB_bl, selB_t, selB_f, selE_t, selE_f, rdV_some, stT_some, e_var, e_con, e_glo, e_nop, t_bin, t_neg, t_not, t_cmp, t_cmp2, cmp2T_t, cmp2T_f, t_and, t_or, t_if, t_idx, t_tup, t_lst, t_call, t_blt, t_mth, mthT_t, es_nil, ts_cons, b_nil, tb_cons, ts_asg, ts_expr, ts_if, ts_ret, s_rais, seqT_nx, seqT_rt, seqT_exn, seqT_bk, seqT_ct, bindT_ok, bindT_exn, outT_ok, outT_exn, tstT_ok, tstT_exn, asBT_bl, c_eqI, c_neI, c_ltI, c_leI, c_gtI, c_geI, o_addI, o_subI, n_I, abs_N, ix_tup, lift_some, at0, at1, at2, at3, asT_var, asT_tup, asTs_nil, asTs_cons, ctl_call, List.getElem?_cons_zero, List.getElem?_cons_succ, List.set_cons_zero, List.set_cons_succ, List.length_cons, List.length_nil, List.map_cons, List.map_nil, List.cons_append, List.nil_append, List.replicate_succ, List.replicate_zero, Nat.reduceAdd, Nat.reduceSub, Nat.reduceLT, Nat.reduceLeDiff, sz, Option.bind_some, Option.bind_none, Option.map_some, Bool.false_eq_true, if_true, if_false, reduceIte, Nat.zero_add, startE, Bool.not_true, Bool.not_false, decide_true, decide_false, bInit, envB, gc1, int_B]
      obtain ⟨o', a2⟩ := bIn_ok cc hp hHL hP hF hi hlf hn hO1 (o := o4)
      have hP0' : HW (some (c, d)) (p.getD 0 0) := hP0 ▸ hp 0
      have ov := over_w (n := n) (m := [.lst ((backL p i).map encQ)]) parts f_over (backT_hw hp hHL i i) hP0' h0 hO1 (by have := wOks_at hP 0; rw [hP0] at this; exact this) hc hD
      rw [← cc] at ov
      have i0 := ixr (m := [.lst ((backL p i).map encQ)]) hl0
      rw [show (((0 : Nat) : Nat) : Int) = 0 from rfl] at i0
      have ap := app0 (F := (backL p i).map encQ) (y := encQ (backT p (backL p i) i i / p.getD 0 0)) (r := []) (by simp [hlf]; omega)
      have a3 : evalS C bApp (envB (rowD p) i (encQ (backT p (backL p i) i i)) o') [.lst ((backL p i).map encQ)] = .nx (envB (rowD p) i (encQ (backT p (backL p i) i i)) o') [.lst ((backL p i).map encQ ++ [encQ (backT p (backL p i) i i / p.getD 0 0)])] := by
        generalize encQ (backT p (backL p i) i i / p.getD 0 0) = y at ap ov
        generalize (backL p i).map encQ = F at ap i0 ov
        simp only [fin_rt, fin_nx, fin_exn, seq_nx, seq_rt, seq_exn, seq_bk, seq_ct, bind_ok, bind_exn, out_ok, out_exn, tst_ok, tst_exn, gc_ok_, gc_exn, gcM_same, asB_bl, selB_t, selB_f, selE_t, selE_f, rdV_some, stT_some, e_var, e_con, e_glo, e_nop, t_bin, t_neg, t_not, t_cmp, t_cmp2, cmp2T_t, cmp2T_f, t_and, t_or, t_if, t_idx, t_tup, t_lst, t_call, t_blt, t_mth, mthT_t, es_nil, ts_cons, b_nil, tb_cons, ts_asg, ts_expr, ts_if, ts_ret, s_rais, seqT_nx, seqT_rt, seqT_exn, seqT_bk, seqT_ct, bindT_ok, bindT_exn, outT_ok, outT_exn, tstT_ok, tstT_exn, asBT_bl, c_eqI, c_neI, c_ltI, c_leI, c_gtI, c_geI, o_addI, o_subI, n_I, abs_N, ix_tup, lift_some, at0, at1, at2, at3, asT_var, asT_tup, asTs_nil, asTs_cons, ctl_call, List.getElem?_cons_zero, List.getElem?_cons_succ, List.set_cons_zero, List.set_cons_succ, List.length_cons, List.length_nil, List.map_cons, List.map_nil, List.cons_append, List.nil_append, List.replicate_succ, List.replicate_zero, Nat.reduceAdd, Nat.reduceSub, Nat.reduceLT, Nat.reduceLeDiff, sz, Option.bind_some, Option.bind_none, Option.map_some, Bool.false_eq_true, if_true, if_false, reduceIte, Nat.zero_add, startE, Bool.not_true, Bool.not_false, decide_true, decide_false, bApp, envB, isL0, i0, ov, ap, gc1]
      refine ⟨_, [.lst ((backL p i).map encQ ++ [encQ (backT p (backL p i) i i / p.getD 0 0)])], ?_, some (.int i), some (encQ (backT p (backL p i) i i)), o', rfl, ?_⟩
      · show evalB C [bInit, bIn, bApp] [some (rowD p), some (.ref 0), some (.int (0 + (i : Nat))), o3, o4] _ = _
        rw [b_cons, a1, seq_nx, b_cons, a2, seq_nx, b_cons, a3, seq_nx, b_nil]
        rfl
      · rw [backL, List.map_append]
        rfl)
    ⟨none, none, none, rfl, rfl⟩
  subst he hme
  have e2 : evalS C bOut [some (rowD p), some (.ref 0), none, none, none] [.lst []] = .nx [some (rowD p), some (.ref 0), o2, o3, o4] [.lst ((backR p).map encQ)] := by
    refine s_for_of (i_rng1 (k := p.length) ?_ (by omega)) e
    simp only [fin_rt, fin_nx, fin_exn, seq_nx, seq_rt, seq_exn, seq_bk, seq_ct, bind_ok, bind_exn, out_ok, out_exn, tst_ok, tst_exn, gc_ok_, gc_exn, gcM_same, asB_bl, selB_t, selB_f, selE_t, selE_f, rdV_some, stT_some, e_var, e_con, e_glo, e_nop, t_bin, t_neg, t_not, t_cmp, t_cmp2, cmp2T_t, cmp2T_f, t_and, t_or, t_if, t_idx, t_tup, t_lst, t_call, t_blt, t_mth, mthT_t, es_nil, ts_cons, b_nil, tb_cons, ts_asg, ts_expr, ts_if, ts_ret, s_rais, seqT_nx, seqT_rt, seqT_exn, seqT_bk, seqT_ct, bindT_ok, bindT_exn, outT_ok, outT_exn, tstT_ok, tstT_exn, asBT_bl, c_eqI, c_neI, c_ltI, c_leI, c_gtI, c_geI, o_addI, o_subI, n_I, abs_N, ix_tup, lift_some, at0, at1, at2, at3, asT_var, asT_tup, asTs_nil, asTs_cons, ctl_call, List.getElem?_cons_zero, List.getElem?_cons_succ, List.set_cons_zero, List.set_cons_succ, List.length_cons, List.length_nil, List.map_cons, List.map_nil, List.cons_append, List.nil_append, List.replicate_succ, List.replicate_zero, Nat.reduceAdd, Nat.reduceSub, Nat.reduceLT, Nat.reduceLeDiff, sz, Option.bind_some, Option.bind_none, Option.map_some, Bool.false_eq_true, if_true, if_false, reduceIte, Nat.zero_add, startE, Bool.not_true, Bool.not_false, decide_true, decide_false, lenR]
  have g0 : gcM 0 (.ref 0) [Cell.lst []] = [.lst []] := rfl
  have gE := gcR (p := backR p) (m := [.lst ((backR p).map encQ)])
  show finF 0 (evalB C ir_back_row [some (rowD p), none, none, none, none] []) = _
  rw [ir_back_eq, b_cons, b1, seq_nx]
  have e3 : evalB C [(.asg (.var 1) (.lst [])), bOut, (.ret (.blt .tuple [(.var 1)]))] [some (rowD p), none, none, none, none] [] = .rt (rowD (backR p)) [.lst ((backR p).map encQ)] := by
    simp only [fin_rt, fin_nx, fin_exn, seq_nx, seq_rt, seq_exn, seq_bk, seq_ct, bind_ok, bind_exn, out_ok, out_exn, tst_ok, tst_exn, gc_ok_, gc_exn, gcM_same, asB_bl, selB_t, selB_f, selE_t, selE_f, rdV_some, stT_some, e_var, e_con, e_glo, e_nop, t_bin, t_neg, t_not, t_cmp, t_cmp2, cmp2T_t, cmp2T_f, t_and, t_or, t_if, t_idx, t_tup, t_lst, t_call, t_blt, t_mth, mthT_t, es_nil, ts_cons, b_nil, tb_cons, ts_asg, ts_expr, ts_if, ts_ret, s_rais, seqT_nx, seqT_rt, seqT_exn, seqT_bk, seqT_ct, bindT_ok, bindT_exn, outT_ok, outT_exn, tstT_ok, tstT_exn, asBT_bl, c_eqI, c_neI, c_ltI, c_leI, c_gtI, c_geI, o_addI, o_subI, n_I, abs_N, ix_tup, lift_some, at0, at1, at2, at3, asT_var, asT_tup, asTs_nil, asTs_cons, ctl_call, List.getElem?_cons_zero, List.getElem?_cons_succ, List.set_cons_zero, List.set_cons_succ, List.length_cons, List.length_nil, List.map_cons, List.map_nil, List.cons_append, List.nil_append, List.replicate_succ, List.replicate_zero, Nat.reduceAdd, Nat.reduceSub, Nat.reduceLT, Nat.reduceLeDiff, sz, Option.bind_some, Option.bind_none, Option.map_some, Bool.false_eq_true, if_true, if_false, reduceIte, Nat.zero_add, startE, Bool.not_true, Bool.not_false, decide_true, decide_false, g0, e2, tupl0]
    rfl
  rw [e3, fin_rt, gE]
theorem back_exn {p : List Rat} {m : Mem} (h0 : p.getD 0 0 = 0) (hne : p ≠ []) : runF LL.prog (n + 1) 12 [rowD p] m = .exn "NoWay" none m := by
  have hf : LL.prog.fns[12]? = some ⟨1, 5, ir_back_row⟩ := fnA (d := d_back_row) rfl
  rw [runF_at hf rfl]
  have hl0 : 0 < p.length := List.length_pos_iff.mpr hne
  have i0 := ixr (m := m) hl0
  rw [show (((0 : Nat) : Nat) : Int) = 0 from rfl, h0] at i0
  have n0 : (0 : Rat).num = 0 := rfl
  rw [ir_back_eq]
  have g : ∀ b : Bool, gcM m.length (.bl b) m = m := fun b => gcM_same
  simp only [fin_rt, fin_nx, fin_exn, seq_nx, seq_rt, seq_exn, seq_bk, seq_ct, bind_ok, bind_exn, out_ok, out_exn, tst_ok, tst_exn, gc_ok_, gc_exn, gcM_same, asB_bl, selB_t, selB_f, selE_t, selE_f, rdV_some, stT_some, e_var, e_con, e_glo, e_nop, t_bin, t_neg, t_not, t_cmp, t_cmp2, cmp2T_t, cmp2T_f, t_and, t_or, t_if, t_idx, t_tup, t_lst, t_call, t_blt, t_mth, mthT_t, es_nil, ts_cons, b_nil, tb_cons, ts_asg, ts_expr, ts_if, ts_ret, s_rais, seqT_nx, seqT_rt, seqT_exn, seqT_bk, seqT_ct, bindT_ok, bindT_exn, outT_ok, outT_exn, tstT_ok, tstT_exn, asBT_bl, c_eqI, c_neI, c_ltI, c_leI, c_gtI, c_geI, o_addI, o_subI, n_I, abs_N, ix_tup, lift_some, at0, at1, at2, at3, asT_var, asT_tup, asTs_nil, asTs_cons, ctl_call, List.getElem?_cons_zero, List.getElem?_cons_succ, List.set_cons_zero, List.set_cons_succ, List.length_cons, List.length_nil, List.map_cons, List.map_nil, List.cons_append, List.nil_append, List.replicate_succ, List.replicate_zero, Nat.reduceAdd, Nat.reduceSub, Nat.reduceLT, Nat.reduceLeDiff, sz, Option.bind_some, Option.bind_none, Option.map_some, Bool.false_eq_true, if_true, if_false, reduceIte, Nat.zero_add, startE, Bool.not_true, Bool.not_false, decide_true, decide_false, bTest, eq_emp hne, i0, ix0, n0, g]
end
end Dat.K16

/-! E16 -/
set_option maxRecDepth 100000
set_option maxHeartbeats 1000000
set_option linter.all false
/-! E16: the row that is its own slope. -/
namespace Dat.K16
open PySem L2
def expT (p F : List Rat) (k : Nat) : Nat → Rat
  | 0 => 0
  | j + 1 => expT p F k j + nI (j + 1) * p.getD (j + 1) 0 * F.getD (k - (j + 1)) 0
def expTW (P F : List Wt) (k : Nat) : Nat → Wt
  | 0 => none
  | j + 1 => wAdd (expTW P F k j) (wMul (wMul (iW (j + 1)) (P.getD (j + 1) none)) (F.getD (k - (j + 1)) none))
def expL (p : List Rat) : Nat → List Rat
  | 0 => [1]
  | k + 1 => expL p k ++ [expT p (expL p k) (k + 1) (k + 1) / nI (k + 1)]
def expLW (P : List Wt) : Nat → List Wt
  | 0 => [some (0, 0)]
  | k + 1 => expLW P k ++ [wDiv (expTW P (expLW P k) (k + 1) (k + 1)) (iW (k + 1))]
theorem expL_len (p : List Rat) : ∀ k, (expL p k).length = k + 1
  | 0 => rfl
  | k + 1 => by simp [expL, expL_len p k]
theorem expLW_len (P : List Wt) : ∀ k, (expLW P k).length = k + 1
  | 0 => rfl
  | k + 1 => by simp [expLW, expLW_len P k]
theorem expT_hw {P F : List Wt} {p f : List Rat} (hp : HL P p) (hf : HL F f) (k : Nat) : ∀ j, HW (expTW P F k j) (expT p f k j)
  | 0 => rfl
  | j + 1 => (expT_hw hp hf k j).add (((hw_n (j + 1)).mul (hp (j + 1))).mul (hf (k - (j + 1))))
theorem hl_one : HL [some (0, 0)] [1] := fun i => match i with
  | 0 => ⟨by decide, by decide⟩
  | i + 1 => rfl
theorem expL_hl {P : List Wt} {p : List Rat} (hp : HL P p) : ∀ k, HL (expLW P k) (expL p k)
  | 0 => hl_one
  | k + 1 => hl_snoc (expL_hl hp k) (by rw [expL_len, expLW_len]) ((expT_hw hp (expL_hl hp k) (k + 1) (k + 1)).div (hw_n (k + 1)) (nI_ne (by omega)))
def expR (p : List Rat) : List Rat := expL p (p.length - 1)
def expW (P : List Wt) (n : Nat) : List Wt := expLW P (n - 1)
theorem expT_ok {P F : List Wt} {k : Nat} : ∀ {n j : Nat}, wOk (expTW P F k n) = true → j ≤ n → wOk (expTW P F k j) = true
  | 0, 0, h, _ => h
  | 0, j + 1, _, hj => absurd hj (by omega)
  | n + 1, j, h, hj => by
    by_cases e : j = n + 1
    · subst e; exact h
    · exact expT_ok (wadd_x h).1 (by omega)
def expO (P : List Wt) (n : Nat) : Bool := ((List.range n).all fun k => wOk (wMul (iW (k + 1)) (P.getD (k + 1) none))) && (List.range (n - 1)).all fun k => wOk (expTW P (expLW P k) (k + 1) (k + 1)) && wOks (expLW P (k + 1))
def xStep : IS := .asg (.var 3) (.call 2 [(.var 3), (.call 4 [(.call 4 [(.tup [(.var 4), (.con (.int 1))]), (.idx (.var 0) (.var 4))]), (.idx (.var 1) (.bin .Sub (.var 2) (.var 4)))])])
def xInit : IS := .asg (.var 3) (.tup [(.con (.int 0)), (.con (.int 1))])
def xIn : IS := .forS (.var 4) (.rng [(.con (.int 1)), (.bin .Add (.var 2) (.con (.int 1)))]) [xStep]
def xApp : IS := .expr (.mth .append (.var 1) [(.call 5 [(.var 3), (.tup [(.var 2), (.con (.int 1))])])])
def xOut : IS := .forS (.var 2) (.rng [(.con (.int 1)), (.blt .len [(.var 0)])]) [xInit, xIn, xApp]
def xTest : IS := .ifS (.orE (.cmp .Eq (.var 0) (.tup [])) (.cmp .NotEq (.idx (.idx (.var 0) (.con (.int 0))) (.con (.int 0))) (.con (.int 0)))) [(.rais "NoWay")] []
theorem ir_exp_eq : ir_exp_row = [xTest, (.asg (.var 1) (.lst [(.tup [(.con (.int 1)), (.con (.int 1))])])), xOut, (.ret (.blt .tuple [(.var 1)]))] := rfl
section
variable {n : Nat}
theorem xIn_ok {C : Ctl} (cc : C.call = runF LL.prog (n + 3)) {P F : List Wt} {p f : List Rat} (hp : HL P p) (hf : HL F f) (hP : wOks P = true) (hF : wOks F = true) (hPi : ∀ j, j < p.length → wOk (wMul (iW (j + 1)) (P.getD (j + 1) none)) = true) {k : Nat} (hk : k < p.length) (hl : f.length = k) (hn : p.length ≤ 90) (hw : wOk (expTW P F k k) = true) {o : Option D} :
    ∃ o', evalS C xIn (envB (rowD p) k (encQ (expT p f k 0)) o) [.lst (f.map encQ)] = .nx (envB (rowD p) k (encQ (expT p f k k)) o') [.lst (f.map encQ)] := by
  obtain ⟨env', m', e, hm, o', he⟩ := for_rng (v := 4) (b := fun e m2 => evalB C [xStep] e m2) (a := ((1 : Nat) : Int)) (k := k + 1 - 1) (env := envB (rowD p) k (encQ (expT p f k 0)) o) (m := [.lst (f.map encQ)]) (fun i env m1 => m1 = [.lst (f.map encQ)] ∧ ∃ o, env = envB (rowD p) k (encQ (expT p f k i)) o)
    (fun i env m1 hi hI => by
      obtain ⟨rfl, o, rfl⟩ := hI
      have e1 : ((1 : Nat) : Int) + (i : Nat) = ((i + 1 : Nat) : Int) := by omega
      rw [e1]
      refine ⟨by simp [envB], envB (rowD p) k (encQ (expT p f k (i + 1))) (some (.int (i + 1 : Nat))), _, ?_, rfl, _, rfl⟩
      have w1 := expT_ok hw (show i + 1 ≤ k by omega)
      have hi' : i < p.length := by omega
      have t0 := times_w (n := n) (m := [.lst (f.map encQ)]) parts f_times (hw_n (i + 1)) (hp (i + 1)) (iw_ok (by omega)).1 (wOks_at hP _) (hPi i hi')
      have t1 := times_w (n := n) (m := [.lst (f.map encQ)]) parts f_times ((hw_n (i + 1)).mul (hp (i + 1))) (hf (k - (i + 1))) (hPi i hi') (wOks_at hF _) (wadd_x w1).2
      have t2 := add_w (n := n) (m := [.lst (f.map encQ)]) parts f_add (expT_hw hp hf k i) (((hw_n (i + 1)).mul (hp (i + 1))).mul (hf (k - (i + 1)))) w1
      rw [← cc] at t0 t1 t2
      rw [enc_n] at t0
      have i1 := ixr (m := [.lst (f.map encQ)]) (p := p) (show i + 1 < p.length by omega)
      have i2 := ixl_sub (m := [.lst (f.map encQ)]) (q := f) (k := k) (j := i + 1) (i := 0) rfl (by omega) (by omega)
      have st : expT p f k (i + 1) = expT p f k i + nI (i + 1) * p.getD (i + 1) 0 * f.getD (k - (i + 1)) 0 := rfl
      rw [← st] at t2
      generalize nI (i + 1) * p.getD (i + 1) 0 * f.getD (k - (i + 1)) 0 = u at t1 t2
      generalize nI (i + 1) * p.getD (i + 1) 0 = u0 at t0 t1
      generalize f.map encQ = FF at *
      generalize (i + 1 : Nat) = j at *
      show evalB C [xStep] (envB (rowD p) k (encQ (expT p f k i)) (some (.int (j : Nat)))) [.lst FF] = _
      simp only [fin_rt, fin_nx, fin_exn, seq_nx, seq_rt, seq_exn, seq_bk, seq_ct, bind_ok, bind_exn, out_ok, out_exn, tst_ok, tst_exn, gc_ok_, gc_exn, gcM_same, asB_bl, selB_t, selB_f, selE_t, selE_f, rdV_some, stT_some, e_var, e_con, e_glo, e_nop, t_bin, t_neg, t_not, t_cmp, t_cmp2, cmp2T_t, cmp2T_f, t_and, t_or, t_if, t_idx, t_tup, t_lst, t_call, t_blt, t_mth, mthT_t, es_nil, ts_cons, b_nil, tb_cons, ts_asg, ts_expr, ts_if, ts_ret, s_rais, seqT_nx, seqT_rt, seqT_exn, seqT_bk, seqT_ct, bindT_ok, bindT_exn, outT_ok, outT_exn, tstT_ok, tstT_exn, asBT_bl, c_eqI, c_neI, c_ltI, c_leI, c_gtI, c_geI, o_addI, o_subI, n_I, abs_N, ix_tup, lift_some, at0, at1, at2, at3, asT_var, asT_tup, asTs_nil, asTs_cons, ctl_call, List.getElem?_cons_zero, List.getElem?_cons_succ, List.set_cons_zero, List.set_cons_succ, List.length_cons, List.length_nil, List.map_cons, List.map_nil, List.cons_append, List.nil_append, List.replicate_succ, List.replicate_zero, Nat.reduceAdd, Nat.reduceSub, Nat.reduceLT, Nat.reduceLeDiff, sz, Option.bind_some, Option.bind_none, Option.map_some, Bool.false_eq_true, if_true, if_false, reduceIte, Nat.zero_add, startE, Bool.not_true, Bool.not_false, decide_true, decide_false, xStep, envB, i1, i2, t0, t1, t2, gc1])
    ⟨rfl, o, rfl⟩
  subst hm he
  refine ⟨o', ?_⟩
  have e2 : envB (rowD p) k (encQ (expT p f k (k + 1 - 1))) o' = envB (rowD p) k (encQ (expT p f k k)) o' := rfl
  rw [e2] at e
  refine s_for_of (i_rng (a := 1) (b := k + 1) ?_ ?_ (by omega)) e
  · simp only [fin_rt, fin_nx, fin_exn, seq_nx, seq_rt, seq_exn, seq_bk, seq_ct, bind_ok, bind_exn, out_ok, out_exn, tst_ok, tst_exn, gc_ok_, gc_exn, gcM_same, asB_bl, selB_t, selB_f, selE_t, selE_f, rdV_some, stT_some, e_var, e_con, e_glo, e_nop, t_bin, t_neg, t_not, t_cmp, t_cmp2, cmp2T_t, cmp2T_f, t_and, t_or, t_if, t_idx, t_tup, t_lst, t_call, t_blt, t_mth, mthT_t, es_nil, ts_cons, b_nil, tb_cons, ts_asg, ts_expr, ts_if, ts_ret, s_rais, seqT_nx, seqT_rt, seqT_exn, seqT_bk, seqT_ct, bindT_ok, bindT_exn, outT_ok, outT_exn, tstT_ok, tstT_exn, asBT_bl, c_eqI, c_neI, c_ltI, c_leI, c_gtI, c_geI, o_addI, o_subI, n_I, abs_N, ix_tup, lift_some, at0, at1, at2, at3, asT_var, asT_tup, asTs_nil, asTs_cons, ctl_call, List.getElem?_cons_zero, List.getElem?_cons_succ, List.set_cons_zero, List.set_cons_succ, List.length_cons, List.length_nil, List.map_cons, List.map_nil, List.cons_append, List.nil_append, List.replicate_succ, List.replicate_zero, Nat.reduceAdd, Nat.reduceSub, Nat.reduceLT, Nat.reduceLeDiff, sz, Option.bind_some, Option.bind_none, Option.map_some, Bool.false_eq_true, if_true, if_false, reduceIte, Nat.zero_add, startE, Bool.not_true, Bool.not_false, decide_true, decide_false]
    rfl
  · simp only [fin_rt, fin_nx, fin_exn, seq_nx, seq_rt, seq_exn, seq_bk, seq_ct, bind_ok, bind_exn, out_ok, out_exn, tst_ok, tst_exn, gc_ok_, gc_exn, gcM_same, asB_bl, selB_t, selB_f, selE_t, selE_f, rdV_some, stT_some, e_var, e_con, e_glo, e_nop, t_bin, t_neg, t_not, t_cmp, t_cmp2, cmp2T_t, cmp2T_f, t_and, t_or, t_if, t_idx, t_tup, t_lst, t_call, t_blt, t_mth, mthT_t, es_nil, ts_cons, b_nil, tb_cons, ts_asg, ts_expr, ts_if, ts_ret, s_rais, seqT_nx, seqT_rt, seqT_exn, seqT_bk, seqT_ct, bindT_ok, bindT_exn, outT_ok, outT_exn, tstT_ok, tstT_exn, asBT_bl, c_eqI, c_neI, c_ltI, c_leI, c_gtI, c_geI, o_addI, o_subI, n_I, abs_N, ix_tup, lift_some, at0, at1, at2, at3, asT_var, asT_tup, asTs_nil, asTs_cons, ctl_call, List.getElem?_cons_zero, List.getElem?_cons_succ, List.set_cons_zero, List.set_cons_succ, List.length_cons, List.length_nil, List.map_cons, List.map_nil, List.cons_append, List.nil_append, List.replicate_succ, List.replicate_zero, Nat.reduceAdd, Nat.reduceSub, Nat.reduceLT, Nat.reduceLeDiff, sz, Option.bind_some, Option.bind_none, Option.map_some, Bool.false_eq_true, if_true, if_false, reduceIte, Nat.zero_add, startE, Bool.not_true, Bool.not_false, decide_true, decide_false, envB]
    rfl
theorem exp_ok {m : Mem} (hm : Clo m) {P : List Wt} {p : List Rat} (hp : HL P p) (hP : wOks P = true) (h0 : p.getD 0 0 = 0) (hne : p ≠ []) (hn : p.length ≤ 90) (hw : expO P p.length = true) : runF LL.prog (n + 4) 17 [rowD p] m = .ok (rowD (expR p)) m := by
  refine at_m hm (by simp only [D.undrL, rowU]; rfl) ?_
  have hf : LL.prog.fns[17]? = some ⟨1, 5, ir_exp_row⟩ := fnA (d := d_exp_row) rfl
  rw [runF_at hf rfl]
  obtain ⟨C, hC⟩ : ∃ C, C = LL.prog.ctl (runF LL.prog (n + 3)) (runF LL.prog (n + 3 - 2)) (n + 3) := ⟨_, rfl⟩
  have cc : C.call = runF LL.prog (n + 3) := by rw [hC]; rfl
  rw [← hC]
  unfold expO at hw
  rw [Bool.and_eq_true] at hw
  obtain ⟨hw0, hw⟩ := hw
  have hPi : ∀ j, j < p.length → wOk (wMul (iW (j + 1)) (P.getD (j + 1) none)) = true := fun j hj => List.all_eq_true.mp hw0 j (List.mem_range.mpr hj)
  have hl0 : 0 < p.length := List.length_pos_iff.mpr hne
  have b1 : evalS C xTest [some (rowD p), none, none, none, none] [] = .nx [some (rowD p), none, none, none, none] [] := by
    have i0 := ixr (m := []) hl0
    rw [show (((0 : Nat) : Nat) : Int) = 0 from rfl, h0] at i0
    have n0 : (0 : Rat).num = 0 := rfl
    simp only [fin_rt, fin_nx, fin_exn, seq_nx, seq_rt, seq_exn, seq_bk, seq_ct, bind_ok, bind_exn, out_ok, out_exn, tst_ok, tst_exn, gc_ok_, gc_exn, gcM_same, asB_bl, selB_t, selB_f, selE_t, selE_f, rdV_some, stT_some, e_var, e_con, e_glo, e_nop, t_bin, t_neg, t_not, t_cmp, t_cmp2, cmp2T_t, cmp2T_f, t_and, t_or, t_if, t_idx, t_tup, t_lst, t_call, t_blt, t_mth, mthT_t, es_nil, ts_cons, b_nil, tb_cons, ts_asg, ts_expr, ts_if, ts_ret, s_rais, seqT_nx, seqT_rt, seqT_exn, seqT_bk, seqT_ct, bindT_ok, bindT_exn, outT_ok, outT_exn, tstT_ok, tstT_exn, asBT_bl, c_eqI, c_neI, c_ltI, c_leI, c_gtI, c_geI, o_addI, o_subI, n_I, abs_N, ix_tup, lift_some, at0, at1, at2, at3, asT_var, asT_tup, asTs_nil, asTs_cons, ctl_call, List.getElem?_cons_zero, List.getElem?_cons_succ, List.set_cons_zero, List.set_cons_succ, List.length_cons, List.length_nil, List.map_cons, List.map_nil, List.cons_append, List.nil_append, List.replicate_succ, List.replicate_zero, Nat.reduceAdd, Nat.reduceSub, Nat.reduceLT, Nat.reduceLeDiff, sz, Option.bind_some, Option.bind_none, Option.map_some, Bool.false_eq_true, if_true, if_false, reduceIte, Nat.zero_add, startE, Bool.not_true, Bool.not_false, decide_true, decide_false, xTest, eq_emp hne, i0, ix0, n0, gcnil]
  obtain ⟨env', m', e, o2, o3, o4, he, hme⟩ := for_rng (v := 2) (b := fun e m2 => evalB C [xInit, xIn, xApp] e m2) (a := ((1 : Nat) : Int)) (k := p.length - 1) (env := [some (rowD p), some (.ref 0), none, none, none]) (m := [.lst [encQ 1]])
    (fun i env m1 => ∃ o2 o3 o4, env = [some (rowD p), some (.ref 0), o2, o3, o4] ∧ m1 = [.lst ((expL p i).map encQ)])
    (fun i env m1 hi hI => by
      obtain ⟨o2, o3, o4, rfl, rfl⟩ := hI
      have e1 : ((1 : Nat) : Int) + (i : Nat) = ((i + 1 : Nat) : Int) := by omega
      rw [e1]
      refine ⟨by simp, ?_⟩
      have hO := List.all_eq_true.mp hw i (List.mem_range.mpr hi)
      simp only [Bool.and_eq_true] at hO
      obtain ⟨hO1, hO2⟩ := hO
      have hlf := expL_len p i
      have hF : wOks (expLW P i) = true := by
        unfold wOks at hO2 ⊢
        rw [expLW, List.all_append, Bool.and_eq_true] at hO2
        exact hO2.1
      have hD : wOk (wDiv (expTW P (expLW P i) (i + 1) (i + 1)) (iW (i + 1))) = true := by
        unfold wOks at hO2
        rw [expLW, List.all_append, Bool.and_eq_true] at hO2
        simpa using hO2.2
      have hHL := expL_hl hp i
      have a1 : evalS C xInit [some (rowD p), some (.ref 0), some (.int (i + 1 : Nat)), o3, o4] [.lst ((expL p i).map encQ)] = .nx (envB (rowD p) (i + 1) (encQ (expT p (expL p i) (i + 1) 0)) o4) [.lst ((expL p i).map encQ)] := by
        have q : encQ (expT p (expL p i) (i + 1) 0) = .tup [.int 0, .int 1] := rfl
        rw [q]
        simp only [fin_rt, fin_nx, fin_exn, seq_nx, seq_rt, seq_exn, seq_bk, seq_ct, bind_ok, bind_exn, out_ok, out_exn, tst_ok, tst_exn, gc_ok_, gc_exn, gcM_same, asB_bl, selB_t, selB_f, selE_t, selE_f, rdV_some, stT_some, e_var, e_con, e_glo, e_nop, t_bin, t_neg, t_not, t_cmp, t_cmp2, cmp2T_t, cmp2T_f, t_and, t_or, t_if, t_idx, t_tup, t_lst, t_call, t_blt, t_mth, mthT_t, es_nil, ts_cons, b_nil, tb_cons, ts_asg, ts_expr, ts_if, ts_ret, s_rais, seqT_nx, seqT_rt, seqT_exn, seqT_bk, seqT_ct, bindT_ok, bindT_exn, outT_ok, outT_exn, tstT_ok, tstT_exn, asBT_bl, c_eqI, c_neI, c_ltI, c_leI, c_gtI, c_geI, o_addI, o_subI, n_I, abs_N, ix_tup, lift_some, at0, at1, at2, at3, asT_var, asT_tup, asTs_nil, asTs_cons, ctl_call, List.getElem?_cons_zero, List.getElem?_cons_succ, List.set_cons_zero, List.set_cons_succ, List.length_cons, List.length_nil, List.map_cons, List.map_nil, List.cons_append, List.nil_append, List.replicate_succ, List.replicate_zero, Nat.reduceAdd, Nat.reduceSub, Nat.reduceLT, Nat.reduceLeDiff, sz, Option.bind_some, Option.bind_none, Option.map_some, Bool.false_eq_true, if_true, if_false, reduceIte, Nat.zero_add, startE, Bool.not_true, Bool.not_false, decide_true, decide_false, xInit, envB, gc1]
      obtain ⟨o', a2⟩ := xIn_ok cc hp hHL hP hF hPi (k := i + 1) (by omega) hlf hn hO1 (o := o4)
      have h1 := iw_ok (k := i + 1) (by omega)
      have ov := over_w (n := n) (m := [.lst ((expL p i).map encQ)]) (c := (i + 1).log2 + 1) (d := 0) parts f_over (expT_hw hp hHL (i + 1) (i + 1)) (hw_n (i + 1)) (nI_ne (by omega)) hO1 h1.1 h1.2 hD
      rw [← cc, enc_n] at ov
      have ap := app0 (F := (expL p i).map encQ) (y := encQ (expT p (expL p i) (i + 1) (i + 1) / nI (i + 1))) (r := []) (by simp [hlf]; omega)
      have a3 : evalS C xApp (envB (rowD p) (i + 1) (encQ (expT p (expL p i) (i + 1) (i + 1))) o') [.lst ((expL p i).map encQ)] = .nx (envB (rowD p) (i + 1) (encQ (expT p (expL p i) (i + 1) (i + 1))) o') [.lst ((expL p i).map encQ ++ [encQ (expT p (expL p i) (i + 1) (i + 1) / nI (i + 1))])] := by
        generalize encQ (expT p (expL p i) (i + 1) (i + 1) / nI (i + 1)) = y at ap ov
        generalize (expL p i).map encQ = F at ap ov
        generalize (i + 1 : Nat) = k at *
        simp only [fin_rt, fin_nx, fin_exn, seq_nx, seq_rt, seq_exn, seq_bk, seq_ct, bind_ok, bind_exn, out_ok, out_exn, tst_ok, tst_exn, gc_ok_, gc_exn, gcM_same, asB_bl, selB_t, selB_f, selE_t, selE_f, rdV_some, stT_some, e_var, e_con, e_glo, e_nop, t_bin, t_neg, t_not, t_cmp, t_cmp2, cmp2T_t, cmp2T_f, t_and, t_or, t_if, t_idx, t_tup, t_lst, t_call, t_blt, t_mth, mthT_t, es_nil, ts_cons, b_nil, tb_cons, ts_asg, ts_expr, ts_if, ts_ret, s_rais, seqT_nx, seqT_rt, seqT_exn, seqT_bk, seqT_ct, bindT_ok, bindT_exn, outT_ok, outT_exn, tstT_ok, tstT_exn, asBT_bl, c_eqI, c_neI, c_ltI, c_leI, c_gtI, c_geI, o_addI, o_subI, n_I, abs_N, ix_tup, lift_some, at0, at1, at2, at3, asT_var, asT_tup, asTs_nil, asTs_cons, ctl_call, List.getElem?_cons_zero, List.getElem?_cons_succ, List.set_cons_zero, List.set_cons_succ, List.length_cons, List.length_nil, List.map_cons, List.map_nil, List.cons_append, List.nil_append, List.replicate_succ, List.replicate_zero, Nat.reduceAdd, Nat.reduceSub, Nat.reduceLT, Nat.reduceLeDiff, sz, Option.bind_some, Option.bind_none, Option.map_some, Bool.false_eq_true, if_true, if_false, reduceIte, Nat.zero_add, startE, Bool.not_true, Bool.not_false, decide_true, decide_false, xApp, envB, isL0, ov, ap, gc1]
      refine ⟨_, [.lst ((expL p i).map encQ ++ [encQ (expT p (expL p i) (i + 1) (i + 1) / nI (i + 1))])], ?_, some (.int (i + 1 : Nat)), some (encQ (expT p (expL p i) (i + 1) (i + 1))), o', rfl, ?_⟩
      · show evalB C [xInit, xIn, xApp] [some (rowD p), some (.ref 0), some (.int (i + 1 : Nat)), o3, o4] _ = _
        rw [b_cons, a1, seq_nx, b_cons, a2, seq_nx, b_cons, a3, seq_nx, b_nil]
        rfl
      · rw [expL, List.map_append]
        rfl)
    ⟨none, none, none, rfl, rfl⟩
  subst he hme
  have e2 : evalS C xOut [some (rowD p), some (.ref 0), none, none, none] [.lst [.tup [.int 1, .int 1]]] = .nx [some (rowD p), some (.ref 0), o2, o3, o4] [.lst ((expR p).map encQ)] := by
    refine s_for_of (i_rng (a := 1) (b := p.length) ?_ ?_ (by omega)) e
    · simp only [fin_rt, fin_nx, fin_exn, seq_nx, seq_rt, seq_exn, seq_bk, seq_ct, bind_ok, bind_exn, out_ok, out_exn, tst_ok, tst_exn, gc_ok_, gc_exn, gcM_same, asB_bl, selB_t, selB_f, selE_t, selE_f, rdV_some, stT_some, e_var, e_con, e_glo, e_nop, t_bin, t_neg, t_not, t_cmp, t_cmp2, cmp2T_t, cmp2T_f, t_and, t_or, t_if, t_idx, t_tup, t_lst, t_call, t_blt, t_mth, mthT_t, es_nil, ts_cons, b_nil, tb_cons, ts_asg, ts_expr, ts_if, ts_ret, s_rais, seqT_nx, seqT_rt, seqT_exn, seqT_bk, seqT_ct, bindT_ok, bindT_exn, outT_ok, outT_exn, tstT_ok, tstT_exn, asBT_bl, c_eqI, c_neI, c_ltI, c_leI, c_gtI, c_geI, o_addI, o_subI, n_I, abs_N, ix_tup, lift_some, at0, at1, at2, at3, asT_var, asT_tup, asTs_nil, asTs_cons, ctl_call, List.getElem?_cons_zero, List.getElem?_cons_succ, List.set_cons_zero, List.set_cons_succ, List.length_cons, List.length_nil, List.map_cons, List.map_nil, List.cons_append, List.nil_append, List.replicate_succ, List.replicate_zero, Nat.reduceAdd, Nat.reduceSub, Nat.reduceLT, Nat.reduceLeDiff, sz, Option.bind_some, Option.bind_none, Option.map_some, Bool.false_eq_true, if_true, if_false, reduceIte, Nat.zero_add, startE, Bool.not_true, Bool.not_false, decide_true, decide_false]
      rfl
    · simp only [fin_rt, fin_nx, fin_exn, seq_nx, seq_rt, seq_exn, seq_bk, seq_ct, bind_ok, bind_exn, out_ok, out_exn, tst_ok, tst_exn, gc_ok_, gc_exn, gcM_same, asB_bl, selB_t, selB_f, selE_t, selE_f, rdV_some, stT_some, e_var, e_con, e_glo, e_nop, t_bin, t_neg, t_not, t_cmp, t_cmp2, cmp2T_t, cmp2T_f, t_and, t_or, t_if, t_idx, t_tup, t_lst, t_call, t_blt, t_mth, mthT_t, es_nil, ts_cons, b_nil, tb_cons, ts_asg, ts_expr, ts_if, ts_ret, s_rais, seqT_nx, seqT_rt, seqT_exn, seqT_bk, seqT_ct, bindT_ok, bindT_exn, outT_ok, outT_exn, tstT_ok, tstT_exn, asBT_bl, c_eqI, c_neI, c_ltI, c_leI, c_gtI, c_geI, o_addI, o_subI, n_I, abs_N, ix_tup, lift_some, at0, at1, at2, at3, asT_var, asT_tup, asTs_nil, asTs_cons, ctl_call, List.getElem?_cons_zero, List.getElem?_cons_succ, List.set_cons_zero, List.set_cons_succ, List.length_cons, List.length_nil, List.map_cons, List.map_nil, List.cons_append, List.nil_append, List.replicate_succ, List.replicate_zero, Nat.reduceAdd, Nat.reduceSub, Nat.reduceLT, Nat.reduceLeDiff, sz, Option.bind_some, Option.bind_none, Option.map_some, Bool.false_eq_true, if_true, if_false, reduceIte, Nat.zero_add, startE, Bool.not_true, Bool.not_false, decide_true, decide_false, lenR]
  have g0 : gcM 0 (.ref 0) [Cell.lst [.tup [.int 1, .int 1]]] = [.lst [.tup [.int 1, .int 1]]] := rfl
  have gE := gcR (p := expR p) (m := [.lst ((expR p).map encQ)])
  show finF 0 (evalB C ir_exp_row [some (rowD p), none, none, none, none] []) = _
  rw [ir_exp_eq, b_cons, b1, seq_nx]
  have e3 : evalB C [(.asg (.var 1) (.lst [(.tup [(.con (.int 1)), (.con (.int 1))])])), xOut, (.ret (.blt .tuple [(.var 1)]))] [some (rowD p), none, none, none, none] [] = .rt (rowD (expR p)) [.lst ((expR p).map encQ)] := by
    simp only [fin_rt, fin_nx, fin_exn, seq_nx, seq_rt, seq_exn, seq_bk, seq_ct, bind_ok, bind_exn, out_ok, out_exn, tst_ok, tst_exn, gc_ok_, gc_exn, gcM_same, asB_bl, selB_t, selB_f, selE_t, selE_f, rdV_some, stT_some, e_var, e_con, e_glo, e_nop, t_bin, t_neg, t_not, t_cmp, t_cmp2, cmp2T_t, cmp2T_f, t_and, t_or, t_if, t_idx, t_tup, t_lst, t_call, t_blt, t_mth, mthT_t, es_nil, ts_cons, b_nil, tb_cons, ts_asg, ts_expr, ts_if, ts_ret, s_rais, seqT_nx, seqT_rt, seqT_exn, seqT_bk, seqT_ct, bindT_ok, bindT_exn, outT_ok, outT_exn, tstT_ok, tstT_exn, asBT_bl, c_eqI, c_neI, c_ltI, c_leI, c_gtI, c_geI, o_addI, o_subI, n_I, abs_N, ix_tup, lift_some, at0, at1, at2, at3, asT_var, asT_tup, asTs_nil, asTs_cons, ctl_call, List.getElem?_cons_zero, List.getElem?_cons_succ, List.set_cons_zero, List.set_cons_succ, List.length_cons, List.length_nil, List.map_cons, List.map_nil, List.cons_append, List.nil_append, List.replicate_succ, List.replicate_zero, Nat.reduceAdd, Nat.reduceSub, Nat.reduceLT, Nat.reduceLeDiff, sz, Option.bind_some, Option.bind_none, Option.map_some, Bool.false_eq_true, if_true, if_false, reduceIte, Nat.zero_add, startE, Bool.not_true, Bool.not_false, decide_true, decide_false, g0, e2, tupl0]
    rfl
  rw [e3, fin_rt, gE]
theorem exp_exn {p : List Rat} {m : Mem} (h0 : p.getD 0 0 ≠ 0) : runF LL.prog (n + 1) 17 [rowD p] m = .exn "NoWay" none m := by
  have hf : LL.prog.fns[17]? = some ⟨1, 5, ir_exp_row⟩ := fnA (d := d_exp_row) rfl
  rw [runF_at hf rfl]
  have hne : p ≠ [] := fun z => h0 (by rw [z]; rfl)
  have hl0 : 0 < p.length := List.length_pos_iff.mpr hne
  have i0 := ixr (m := m) hl0
  rw [show (((0 : Nat) : Nat) : Int) = 0 from rfl] at i0
  have n0 : (p.getD 0 0).num ≠ 0 := fun z => h0 (Rat.num_eq_zero.mp z)
  rw [ir_exp_eq]
  have g : ∀ b : Bool, gcM m.length (.bl b) m = m := fun b => gcM_same
  simp only [fin_rt, fin_nx, fin_exn, seq_nx, seq_rt, seq_exn, seq_bk, seq_ct, bind_ok, bind_exn, out_ok, out_exn, tst_ok, tst_exn, gc_ok_, gc_exn, gcM_same, asB_bl, selB_t, selB_f, selE_t, selE_f, rdV_some, stT_some, e_var, e_con, e_glo, e_nop, t_bin, t_neg, t_not, t_cmp, t_cmp2, cmp2T_t, cmp2T_f, t_and, t_or, t_if, t_idx, t_tup, t_lst, t_call, t_blt, t_mth, mthT_t, es_nil, ts_cons, b_nil, tb_cons, ts_asg, ts_expr, ts_if, ts_ret, s_rais, seqT_nx, seqT_rt, seqT_exn, seqT_bk, seqT_ct, bindT_ok, bindT_exn, outT_ok, outT_exn, tstT_ok, tstT_exn, asBT_bl, c_eqI, c_neI, c_ltI, c_leI, c_gtI, c_geI, o_addI, o_subI, n_I, abs_N, ix_tup, lift_some, at0, at1, at2, at3, asT_var, asT_tup, asTs_nil, asTs_cons, ctl_call, List.getElem?_cons_zero, List.getElem?_cons_succ, List.set_cons_zero, List.set_cons_succ, List.length_cons, List.length_nil, List.map_cons, List.map_nil, List.cons_append, List.nil_append, List.replicate_succ, List.replicate_zero, Nat.reduceAdd, Nat.reduceSub, Nat.reduceLT, Nat.reduceLeDiff, sz, Option.bind_some, Option.bind_none, Option.map_some, Bool.false_eq_true, if_true, if_false, reduceIte, Nat.zero_add, startE, Bool.not_true, Bool.not_false, decide_true, decide_false, xTest, eq_emp hne, i0, ix0, n0, g]
end
end Dat.K16

/-! F16 -/
set_option maxRecDepth 100000
set_option maxHeartbeats 1000000
set_option linter.all false
/-! F16: rows put into one another, turned back. -/
namespace Dat.K16
open PySem L2
theorem for_itG {v : Nat} {b : EnvD → Mem → Out} {it : Nat → D} (I : Nat → EnvD → Mem → Prop) : ∀ (k j : Nat) (env : EnvD) (m : Mem),
    (∀ i env m, j ≤ i → i < j + k → I i env m → v < env.length ∧ ∃ env' m', b (env.set v (some (it i))) m = .nx env' m' ∧ I (i + 1) env' m') → I j env m →
    ∃ env' m', forL none (.var v) b ((List.range' j k).map it) env m = .nx env' m' ∧ I (j + k) env' m'
  | 0, j, env, m, hs, h0 => ⟨env, m, by simp [forL, chkW], h0⟩
  | k + 1, j, env, m, hs, h0 => by
    obtain ⟨hl, env1, m1, e1, h1⟩ := hs j env m (Nat.le_refl _) (by omega) h0
    obtain ⟨env2, m2, e2, h2⟩ := for_itG I k (j + 1) env1 m1 (fun i env m hi1 hi2 hI => hs i env m (by omega) (by omega) hI) h1
    refine ⟨env2, m2, ?_, by rw [show j + (k + 1) = j + 1 + k by omega]; exact h2⟩
    rw [List.range'_succ, List.map_cons]
    simp only [forL, chkW, if_true, asgT, hl, e1, e2]
theorem for_it {v : Nat} {b : EnvD → Mem → Out} {it : Nat → D} (I : Nat → EnvD → Mem → Prop) {k : Nat} {env : EnvD} {m : Mem}
    (hs : ∀ i env m, i < k → I i env m → v < env.length ∧ ∃ env' m', b (env.set v (some (it i))) m = .nx env' m' ∧ I (i + 1) env' m') (h0 : I 0 env m) :
    ∃ env' m', forL none (.var v) b ((List.range k).map it) env m = .nx env' m' ∧ I k env' m' := by
  rw [List.range_eq_range']
  have := for_itG I (v := v) (b := b) (it := it) k 0 env m (fun i env m _ h hI => hs i env m (by omega) hI) h0
  simpa using this
theorem rev_rng {α : Type} {f : Nat → α} {n : Nat} : ((List.range n).map f).reverse = (List.range n).map fun k => f (n - 1 - k) := by
  apply List.ext_getElem
  · simp
  · intro i h1 h2
    simp
/-! ### put in -/
def putStep (f g : List Rat) (x : Rat) : List Rat := ((prodR f g).getD 0 0 + x) :: (prodR f g).drop 1
def putSW (F G : List Wt) (n : Nat) (x : Wt) : List Wt := wAdd ((prodW F G n).getD 0 none) x :: (prodW F G n).drop 1
def putL (p q : List Rat) : Nat → List Rat
  | 0 => cutR [] p.length
  | k + 1 => putStep (putL p q k) (cutR q p.length) (p.getD (p.length - 1 - k) 0)
def putLW (P Q : List Wt) (n : Nat) : Nat → List Wt
  | 0 => cutW [] n
  | k + 1 => putSW (putLW P Q n k) (cutW Q n) n (P.getD (n - 1 - k) none)
def putR (p q : List Rat) : List Rat := putL p q p.length
def putW (P Q : List Wt) (n : Nat) : List Wt := putLW P Q n n
theorem prodR_len (p q : List Rat) : (prodR p q).length = p.length := by simp [prodR]
theorem cutR_len (p : List Rat) (n : Nat) : (cutR p n).length = n := by simp [cutR]
theorem putL_len {p q : List Rat} (h : p ≠ []) : ∀ k, (putL p q k).length = p.length
  | 0 => by rw [putL, cutR_len]
  | k + 1 => by
    have := List.length_pos_iff.mpr h
    rw [putL, putStep, List.length_cons, List.length_drop, prodR_len, putL_len h k]
    omega
theorem hl_drop {P : List Wt} {p : List Rat} (h : HL P p) : HL (P.drop 1) (p.drop 1) := by
  intro i
  have e1 : (P.drop 1).getD i none = P.getD (1 + i) none := by simp only [List.getD_eq_getElem?_getD, List.getElem?_drop]
  have e2 : (p.drop 1).getD i 0 = p.getD (1 + i) 0 := by simp only [List.getD_eq_getElem?_getD, List.getElem?_drop]
  rw [e1, e2]
  exact h _
theorem putL_hl {P Q : List Wt} {p q : List Rat} (hp : HL P p) (hq : HL Q q) (hne : p ≠ []) : ∀ k, HL (putLW P Q p.length k) (putL p q k)
  | 0 => cut_hl hl_nil _
  | k + 1 => by
    have h1 := prod_hl (putL_hl hp hq hne k) (cut_hl hq p.length)
    rw [putL_len hne k] at h1
    exact hl_cons (hl_drop h1) ((h1 0).add (hp _))
theorem put_hl {P Q : List Wt} {p q : List Rat} (hp : HL P p) (hq : HL Q q) (hne : p ≠ []) : HL (putW P Q p.length) (putR p q) := putL_hl hp hq hne p.length
def putO (P Q : List Wt) (n : Nat) : Bool := (List.range n).all fun k => wOks (putLW P Q n k) && (wOks (prodW (putLW P Q n k) (cutW Q n) n) && wOk (wAdd ((prodW (putLW P Q n k) (cutW Q n) n).getD 0 none) (P.getD (n - 1 - k) none)))
theorem cutW_ok {Q : List Wt} (h : wOks Q = true) (n : Nat) : wOks (cutW Q n) = true := by
  unfold cutW wOks
  rw [List.all_eq_true]
  intro x hx
  obtain ⟨k, _, rfl⟩ := List.mem_map.mp hx
  exact wOks_at h k
theorem e_slc10 {C : Ctl} {env : EnvD} {a l : IE} {m : Mem} : evalE (.slc true false a l .nop) C env m = (evalE a C env m).bind fun x m1 => (evalE l C env m1).bind fun y m3 => match partD true y with
    | some l' => slcD x l' none m3
    | none => .stuck := by
  simp only [evalE, Res.bind, partD, Bool.false_eq_true, if_false] <;> rfl
theorem e_slc01 {C : Ctl} {env : EnvD} {a h : IE} {m : Mem} : evalE (.slc false true a .nop h) C env m = (evalE a C env m).bind fun x m1 => (evalE h C env m1).bind fun y m3 => match partD true y with
    | some h' => slcD x none h' m3
    | none => .stuck := by
  simp only [evalE, Res.bind, partD, Bool.false_eq_true, if_false] <;> rfl
theorem cut_drop {l : List D} : cutD l (some 1) none = l.drop 1 := by
  unfold cutD
  rw [HT.sIx_none, show (some (1 : Int)) = some ((1 : Nat) : Int) from rfl, HT.sIx_nat]
  rcases Nat.le_total 1 l.length with h | h
  · rw [Nat.min_eq_left h, List.take_of_length_le (by simp)]
  · rw [Nat.min_eq_right h, Nat.sub_self, List.take_zero, List.drop_eq_nil_of_le h]
/-- a new start, the rest as it is -/
theorem head_tail {C : Ctl} {env : EnvD} {m : Mem} {v : Nat} {e : IE} {r : List Rat} {x : Rat} (hv : env[v]? = some (some (rowD r))) (he : evalE e C env m = .ok (encQ x) m) (hl : r.length ≤ 90) :
    evalE (.bin .Add (.tup [e]) (.slc true false (.var v) (.con (.int 1)) .nop)) C env m = .ok (rowD (x :: r.drop 1)) m := by
  have e1 : evalE (.tup [e]) C env m = .ok (.tup [encQ x]) m := by simp only [fin_rt, fin_nx, fin_exn, seq_nx, seq_rt, seq_exn, seq_bk, seq_ct, bind_ok, bind_exn, out_ok, out_exn, tst_ok, tst_exn, gc_ok_, gc_exn, gcM_same, asB_bl, selB_t, selB_f, selE_t, selE_f, rdV_some, stT_some, e_var, e_con, e_glo, e_nop, t_bin, t_neg, t_not, t_cmp, t_cmp2, cmp2T_t, cmp2T_f, t_and, t_or, t_if, t_idx, t_tup, t_lst, t_call, t_blt, t_mth, mthT_t, es_nil, ts_cons, b_nil, tb_cons, ts_asg, ts_expr, ts_if, ts_ret, s_rais, seqT_nx, seqT_rt, seqT_exn, seqT_bk, seqT_ct, bindT_ok, bindT_exn, outT_ok, outT_exn, tstT_ok, tstT_exn, asBT_bl, c_eqI, c_neI, c_ltI, c_leI, c_gtI, c_geI, o_addI, o_subI, n_I, abs_N, ix_tup, lift_some, at0, at1, at2, at3, asT_var, asT_tup, asTs_nil, asTs_cons, ctl_call, List.getElem?_cons_zero, List.getElem?_cons_succ, List.set_cons_zero, List.set_cons_succ, List.length_cons, List.length_nil, List.map_cons, List.map_nil, List.cons_append, List.nil_append, List.replicate_succ, List.replicate_zero, Nat.reduceAdd, Nat.reduceSub, Nat.reduceLT, Nat.reduceLeDiff, sz, Option.bind_some, Option.bind_none, Option.map_some, Bool.false_eq_true, if_true, if_false, reduceIte, Nat.zero_add, startE, Bool.not_true, Bool.not_false, decide_true, decide_false, he]
  have e2 : evalE (.slc true false (.var v) (.con (.int 1)) .nop) C env m = .ok (.tup ((r.drop 1).map encQ)) m := by
    rw [e_slc10, e_var, hv, rdV_some, bind_ok, e_con, bind_ok]
    unfold rowD
    simp only [partD, if_true, slcD, cut_drop, List.map_drop]
  rw [e_bin, e1, bind_ok, e2, bind_ok]
  simp only [binD, addD]
  rw [if_pos (szl (by simp; omega))]
  rfl
def pTest : IS := .ifS (.orE (.cmp .Eq (.var 1) (.tup [])) (.cmp .NotEq (.idx (.idx (.var 1) (.con (.int 0))) (.con (.int 0))) (.con (.int 0)))) [(.rais "NoWay")] []
def pInit : IS := .asg (.var 2) (.call 7 [(.tup []), (.blt .len [(.var 0)])])
def pMul : IS := .asg (.var 2) (.call 11 [(.var 2), (.call 7 [(.var 1), (.blt .len [(.var 0)])])])
def pHd : IS := .asg (.var 2) (.bin .Add (.tup [(.call 2 [(.idx (.var 2) (.con (.int 0))), (.var 3)])]) (.slc true false (.var 2) (.con (.int 1)) .nop))
def pLoop : IS := .forS (.var 3) (.rev (.var 0)) [pMul, pHd]
theorem ir_put_eq : ir_put_row = [pTest, pInit, pLoop, (.ret (.var 2))] := rfl
theorem clo_nil : Clo [] := fun c h => by simp at h
theorem putL_all {P Q : List Wt} {n : Nat} (h : putO P Q n = true) {k : Nat} (hk : k < n) : wOks (putLW P Q n k) = true ∧ wOks (prodW (putLW P Q n k) (cutW Q n) n) = true ∧ wOk (wAdd ((prodW (putLW P Q n k) (cutW Q n) n).getD 0 none) (P.getD (n - 1 - k) none)) = true := by
  have := List.all_eq_true.mp h k (List.mem_range.mpr hk)
  simp only [Bool.and_eq_true] at this
  exact this
section
variable {n : Nat}
theorem put_ok {m : Mem} (hm : Clo m) {P Q : List Wt} {p q : List Rat} (hp : HL P p) (hq : HL Q q) (hQ : wOks Q = true) (h0 : q.getD 0 0 = 0) (hne : p ≠ []) (hqe : q ≠ []) (hn : p.length ≤ 90) (hw : putO P Q p.length = true) : runF LL.prog (n + 5) 15 [rowD p, rowD q] m = .ok (rowD (putR p q)) m := by
  refine at_m hm (by simp only [D.undrL, rowU]; rfl) ?_
  have hf : LL.prog.fns[15]? = some ⟨2, 4, ir_put_row⟩ := fnA (d := d_put_row) rfl
  rw [runF_at hf rfl]
  obtain ⟨C, hC⟩ : ∃ C, C = LL.prog.ctl (runF LL.prog (n + 4)) (runF LL.prog (n + 4 - 2)) (n + 4) := ⟨_, rfl⟩
  have cc : C.call = runF LL.prog (n + 4) := by rw [hC]; rfl
  rw [← hC]
  have hl0 : 0 < p.length := List.length_pos_iff.mpr hne
  have b1 : evalS C pTest [some (rowD p), some (rowD q), none, none] [] = .nx [some (rowD p), some (rowD q), none, none] [] := by
    have i0 := ixr (m := []) (List.length_pos_iff.mpr hqe)
    rw [show (((0 : Nat) : Nat) : Int) = 0 from rfl, h0] at i0
    have n0 : (0 : Rat).num = 0 := rfl
    simp only [fin_rt, fin_nx, fin_exn, seq_nx, seq_rt, seq_exn, seq_bk, seq_ct, bind_ok, bind_exn, out_ok, out_exn, tst_ok, tst_exn, gc_ok_, gc_exn, gcM_same, asB_bl, selB_t, selB_f, selE_t, selE_f, rdV_some, stT_some, e_var, e_con, e_glo, e_nop, t_bin, t_neg, t_not, t_cmp, t_cmp2, cmp2T_t, cmp2T_f, t_and, t_or, t_if, t_idx, t_tup, t_lst, t_call, t_blt, t_mth, mthT_t, es_nil, ts_cons, b_nil, tb_cons, ts_asg, ts_expr, ts_if, ts_ret, s_rais, seqT_nx, seqT_rt, seqT_exn, seqT_bk, seqT_ct, bindT_ok, bindT_exn, outT_ok, outT_exn, tstT_ok, tstT_exn, asBT_bl, c_eqI, c_neI, c_ltI, c_leI, c_gtI, c_geI, o_addI, o_subI, n_I, abs_N, ix_tup, lift_some, at0, at1, at2, at3, asT_var, asT_tup, asTs_nil, asTs_cons, ctl_call, List.getElem?_cons_zero, List.getElem?_cons_succ, List.set_cons_zero, List.set_cons_succ, List.length_cons, List.length_nil, List.map_cons, List.map_nil, List.cons_append, List.nil_append, List.replicate_succ, List.replicate_zero, Nat.reduceAdd, Nat.reduceSub, Nat.reduceLT, Nat.reduceLeDiff, sz, Option.bind_some, Option.bind_none, Option.map_some, Bool.false_eq_true, if_true, if_false, reduceIte, Nat.zero_add, startE, Bool.not_true, Bool.not_false, decide_true, decide_false, pTest, eq_emp hqe, i0, ix0, n0, gcnil]
  have b2 : evalS C pInit [some (rowD p), some (rowD q), none, none] [] = .nx [some (rowD p), some (rowD q), some (rowD (cutR [] p.length)), none] [] := by
    have t : C.call 7 [.tup [], .int p.length] [] = .ok (rowD (cutR [] p.length)) [] := by rw [cc]; exact cut_ok (n := n + 3) clo_nil [] (by omega)
    simp only [fin_rt, fin_nx, fin_exn, seq_nx, seq_rt, seq_exn, seq_bk, seq_ct, bind_ok, bind_exn, out_ok, out_exn, tst_ok, tst_exn, gc_ok_, gc_exn, gcM_same, asB_bl, selB_t, selB_f, selE_t, selE_f, rdV_some, stT_some, e_var, e_con, e_glo, e_nop, t_bin, t_neg, t_not, t_cmp, t_cmp2, cmp2T_t, cmp2T_f, t_and, t_or, t_if, t_idx, t_tup, t_lst, t_call, t_blt, t_mth, mthT_t, es_nil, ts_cons, b_nil, tb_cons, ts_asg, ts_expr, ts_if, ts_ret, s_rais, seqT_nx, seqT_rt, seqT_exn, seqT_bk, seqT_ct, bindT_ok, bindT_exn, outT_ok, outT_exn, tstT_ok, tstT_exn, asBT_bl, c_eqI, c_neI, c_ltI, c_leI, c_gtI, c_geI, o_addI, o_subI, n_I, abs_N, ix_tup, lift_some, at0, at1, at2, at3, asT_var, asT_tup, asTs_nil, asTs_cons, ctl_call, List.getElem?_cons_zero, List.getElem?_cons_succ, List.set_cons_zero, List.set_cons_succ, List.length_cons, List.length_nil, List.map_cons, List.map_nil, List.cons_append, List.nil_append, List.replicate_succ, List.replicate_zero, Nat.reduceAdd, Nat.reduceSub, Nat.reduceLT, Nat.reduceLeDiff, sz, Option.bind_some, Option.bind_none, Option.map_some, Bool.false_eq_true, if_true, if_false, reduceIte, Nat.zero_add, startE, Bool.not_true, Bool.not_false, decide_true, decide_false, pInit, lenR, t, gcnil]
  have tc : C.call 7 [rowD q, .int p.length] [] = .ok (rowD (cutR q p.length)) [] := by rw [cc]; exact cut_ok (n := n + 3) clo_nil q (by omega)
  obtain ⟨env', m', e, hme, o3, he⟩ := for_it (v := 3) (b := fun e m2 => evalB C [pMul, pHd] e m2) (it := fun k => encQ (p.getD (p.length - 1 - k) 0)) (k := p.length) (env := [some (rowD p), some (rowD q), some (rowD (putL p q 0)), none]) (m := [])
    (fun i env m1 => m1 = [] ∧ ∃ o3, env = [some (rowD p), some (rowD q), some (rowD (putL p q i)), o3])
    (fun i env m1 hi hI => by
      obtain ⟨rfl, o3, rfl⟩ := hI
      refine ⟨by simp, ?_⟩
      obtain ⟨w1, w2, w3⟩ := putL_all hw hi
      have hH := putL_hl hp hq hne i
      have hlen := putL_len (q := q) hne i
      have hpr := prod_hl hH (cut_hl hq p.length)
      rw [hlen] at hpr
      have t1 : C.call 11 [rowD (putL p q i), rowD (cutR q p.length)] [] = .ok (rowD (prodR (putL p q i) (cutR q p.length))) [] := by
        rw [cc]
        exact prod_ok (n := n) clo_nil hH (cut_hl hq p.length) w1 (cutW_ok hQ _) (by rw [hlen, cutR_len]; exact Nat.le_refl _) (by omega) (by rw [hlen]; exact w2)
      have a1 : evalS C pMul [some (rowD p), some (rowD q), some (rowD (putL p q i)), some (encQ (p.getD (p.length - 1 - i) 0))] [] = .nx [some (rowD p), some (rowD q), some (rowD (prodR (putL p q i) (cutR q p.length))), some (encQ (p.getD (p.length - 1 - i) 0))] [] := by
        generalize encQ (p.getD (p.length - 1 - i) 0) = y
        simp only [fin_rt, fin_nx, fin_exn, seq_nx, seq_rt, seq_exn, seq_bk, seq_ct, bind_ok, bind_exn, out_ok, out_exn, tst_ok, tst_exn, gc_ok_, gc_exn, gcM_same, asB_bl, selB_t, selB_f, selE_t, selE_f, rdV_some, stT_some, e_var, e_con, e_glo, e_nop, t_bin, t_neg, t_not, t_cmp, t_cmp2, cmp2T_t, cmp2T_f, t_and, t_or, t_if, t_idx, t_tup, t_lst, t_call, t_blt, t_mth, mthT_t, es_nil, ts_cons, b_nil, tb_cons, ts_asg, ts_expr, ts_if, ts_ret, s_rais, seqT_nx, seqT_rt, seqT_exn, seqT_bk, seqT_ct, bindT_ok, bindT_exn, outT_ok, outT_exn, tstT_ok, tstT_exn, asBT_bl, c_eqI, c_neI, c_ltI, c_leI, c_gtI, c_geI, o_addI, o_subI, n_I, abs_N, ix_tup, lift_some, at0, at1, at2, at3, asT_var, asT_tup, asTs_nil, asTs_cons, ctl_call, List.getElem?_cons_zero, List.getElem?_cons_succ, List.set_cons_zero, List.set_cons_succ, List.length_cons, List.length_nil, List.map_cons, List.map_nil, List.cons_append, List.nil_append, List.replicate_succ, List.replicate_zero, Nat.reduceAdd, Nat.reduceSub, Nat.reduceLT, Nat.reduceLeDiff, sz, Option.bind_some, Option.bind_none, Option.map_some, Bool.false_eq_true, if_true, if_false, reduceIte, Nat.zero_add, startE, Bool.not_true, Bool.not_false, decide_true, decide_false, pMul, lenR, tc, t1, gcnil]
      have rl : (prodR (putL p q i) (cutR q p.length)).length = p.length := by rw [prodR_len, hlen]
      have t2 : C.call 2 [encQ ((prodR (putL p q i) (cutR q p.length)).getD 0 0), encQ (p.getD (p.length - 1 - i) 0)] [] = .ok (encQ ((prodR (putL p q i) (cutR q p.length)).getD 0 0 + p.getD (p.length - 1 - i) 0)) [] := by
        rw [cc]
        exact add_w (n := n + 1) parts f_add (hpr 0) (hp _) w3
      have i0 := ixr (m := []) (p := prodR (putL p q i) (cutR q p.length)) (k := 0) (by omega)
      rw [show (((0 : Nat) : Nat) : Int) = 0 from rfl] at i0
      have a2 : evalS C pHd [some (rowD p), some (rowD q), some (rowD (prodR (putL p q i) (cutR q p.length))), some (encQ (p.getD (p.length - 1 - i) 0))] [] = .nx [some (rowD p), some (rowD q), some (rowD (putL p q (i + 1))), some (encQ (p.getD (p.length - 1 - i) 0))] [] := by
        have ht := head_tail (C := C) (env := [some (rowD p), some (rowD q), some (rowD (prodR (putL p q i) (cutR q p.length))), some (encQ (p.getD (p.length - 1 - i) 0))]) (m := []) (v := 2) (e := .call 2 [(.idx (.var 2) (.con (.int 0))), (.var 3)]) (r := prodR (putL p q i) (cutR q p.length)) (x := (prodR (putL p q i) (cutR q p.length)).getD 0 0 + p.getD (p.length - 1 - i) 0) rfl (by
          generalize encQ (p.getD (p.length - 1 - i) 0) = y at t2
          simp only [fin_rt, fin_nx, fin_exn, seq_nx, seq_rt, seq_exn, seq_bk, seq_ct, bind_ok, bind_exn, out_ok, out_exn, tst_ok, tst_exn, gc_ok_, gc_exn, gcM_same, asB_bl, selB_t, selB_f, selE_t, selE_f, rdV_some, stT_some, e_var, e_con, e_glo, e_nop, t_bin, t_neg, t_not, t_cmp, t_cmp2, cmp2T_t, cmp2T_f, t_and, t_or, t_if, t_idx, t_tup, t_lst, t_call, t_blt, t_mth, mthT_t, es_nil, ts_cons, b_nil, tb_cons, ts_asg, ts_expr, ts_if, ts_ret, s_rais, seqT_nx, seqT_rt, seqT_exn, seqT_bk, seqT_ct, bindT_ok, bindT_exn, outT_ok, outT_exn, tstT_ok, tstT_exn, asBT_bl, c_eqI, c_neI, c_ltI, c_leI, c_gtI, c_geI, o_addI, o_subI, n_I, abs_N, ix_tup, lift_some, at0, at1, at2, at3, asT_var, asT_tup, asTs_nil, asTs_cons, ctl_call, List.getElem?_cons_zero, List.getElem?_cons_succ, List.set_cons_zero, List.set_cons_succ, List.length_cons, List.length_nil, List.map_cons, List.map_nil, List.cons_append, List.nil_append, List.replicate_succ, List.replicate_zero, Nat.reduceAdd, Nat.reduceSub, Nat.reduceLT, Nat.reduceLeDiff, sz, Option.bind_some, Option.bind_none, Option.map_some, Bool.false_eq_true, if_true, if_false, reduceIte, Nat.zero_add, startE, Bool.not_true, Bool.not_false, decide_true, decide_false, i0, t2]) (by omega)
        unfold pHd
        rw [s_asg, ht, gc_ok_, gcnil, out_ok]
        rfl
      refine ⟨_, _, ?_, rfl, some (encQ (p.getD (p.length - 1 - i) 0)), rfl⟩
      show evalB C [pMul, pHd] [some (rowD p), some (rowD q), some (rowD (putL p q i)), some (encQ (p.getD (p.length - 1 - i) 0))] [] = _
      rw [b_cons, a1, seq_nx, b_cons, a2, seq_nx, b_nil])
    ⟨rfl, none, rfl⟩
  subst hme he
  have e2 : evalS C pLoop [some (rowD p), some (rowD q), some (rowD (cutR [] p.length)), none] [] = .nx [some (rowD p), some (rowD q), some (rowD (putR p q)), o3] [] := by
    refine s_for_of ?_ e
    simp only [evalI, e_var, List.getElem?_cons_zero, rdV_some, bind_ok]
    rw [← rev_rng (f := fun k => encQ (p.getD k 0)), ← row_rng]
    rfl
  show finF 0 (evalB C ir_put_row [some (rowD p), some (rowD q), none, none] []) = _
  rw [ir_put_eq, b_cons, b1, seq_nx, b_cons, b2, seq_nx, b_cons, e2, seq_nx]
  simp only [fin_rt, fin_nx, fin_exn, seq_nx, seq_rt, seq_exn, seq_bk, seq_ct, bind_ok, bind_exn, out_ok, out_exn, tst_ok, tst_exn, gc_ok_, gc_exn, gcM_same, asB_bl, selB_t, selB_f, selE_t, selE_f, rdV_some, stT_some, e_var, e_con, e_glo, e_nop, t_bin, t_neg, t_not, t_cmp, t_cmp2, cmp2T_t, cmp2T_f, t_and, t_or, t_if, t_idx, t_tup, t_lst, t_call, t_blt, t_mth, mthT_t, es_nil, ts_cons, b_nil, tb_cons, ts_asg, ts_expr, ts_if, ts_ret, s_rais, seqT_nx, seqT_rt, seqT_exn, seqT_bk, seqT_ct, bindT_ok, bindT_exn, outT_ok, outT_exn, tstT_ok, tstT_exn, asBT_bl, c_eqI, c_neI, c_ltI, c_leI, c_gtI, c_geI, o_addI, o_subI, n_I, abs_N, ix_tup, lift_some, at0, at1, at2, at3, asT_var, asT_tup, asTs_nil, asTs_cons, ctl_call, List.getElem?_cons_zero, List.getElem?_cons_succ, List.set_cons_zero, List.set_cons_succ, List.length_cons, List.length_nil, List.map_cons, List.map_nil, List.cons_append, List.nil_append, List.replicate_succ, List.replicate_zero, Nat.reduceAdd, Nat.reduceSub, Nat.reduceLT, Nat.reduceLeDiff, sz, Option.bind_some, Option.bind_none, Option.map_some, Bool.false_eq_true, if_true, if_false, reduceIte, Nat.zero_add, startE, Bool.not_true, Bool.not_false, decide_true, decide_false, gcnil]
theorem put_exn {p q : List Rat} {m : Mem} (h0 : q.getD 0 0 ≠ 0) : runF LL.prog (n + 1) 15 [rowD p, rowD q] m = .exn "NoWay" none m := by
  have hf : LL.prog.fns[15]? = some ⟨2, 4, ir_put_row⟩ := fnA (d := d_put_row) rfl
  rw [runF_at hf rfl]
  have hne : q ≠ [] := fun z => h0 (by rw [z]; rfl)
  have i0 := ixr (m := m) (List.length_pos_iff.mpr hne)
  rw [show (((0 : Nat) : Nat) : Int) = 0 from rfl] at i0
  have n0 : (q.getD 0 0).num ≠ 0 := fun z => h0 (Rat.num_eq_zero.mp z)
  rw [ir_put_eq]
  have g : ∀ b : Bool, gcM m.length (.bl b) m = m := fun b => gcM_same
  simp only [fin_rt, fin_nx, fin_exn, seq_nx, seq_rt, seq_exn, seq_bk, seq_ct, bind_ok, bind_exn, out_ok, out_exn, tst_ok, tst_exn, gc_ok_, gc_exn, gcM_same, asB_bl, selB_t, selB_f, selE_t, selE_f, rdV_some, stT_some, e_var, e_con, e_glo, e_nop, t_bin, t_neg, t_not, t_cmp, t_cmp2, cmp2T_t, cmp2T_f, t_and, t_or, t_if, t_idx, t_tup, t_lst, t_call, t_blt, t_mth, mthT_t, es_nil, ts_cons, b_nil, tb_cons, ts_asg, ts_expr, ts_if, ts_ret, s_rais, seqT_nx, seqT_rt, seqT_exn, seqT_bk, seqT_ct, bindT_ok, bindT_exn, outT_ok, outT_exn, tstT_ok, tstT_exn, asBT_bl, c_eqI, c_neI, c_ltI, c_leI, c_gtI, c_geI, o_addI, o_subI, n_I, abs_N, ix_tup, lift_some, at0, at1, at2, at3, asT_var, asT_tup, asTs_nil, asTs_cons, ctl_call, List.getElem?_cons_zero, List.getElem?_cons_succ, List.set_cons_zero, List.set_cons_succ, List.length_cons, List.length_nil, List.map_cons, List.map_nil, List.cons_append, List.nil_append, List.replicate_succ, List.replicate_zero, Nat.reduceAdd, Nat.reduceSub, Nat.reduceLT, Nat.reduceLeDiff, sz, Option.bind_some, Option.bind_none, Option.map_some, Bool.false_eq_true, if_true, if_false, reduceIte, Nat.zero_add, startE, Bool.not_true, Bool.not_false, decide_true, decide_false, pTest, eq_emp hne, i0, ix0, n0, g]
end
end Dat.K16

/-! G16 -/
set_option maxRecDepth 100000
set_option maxHeartbeats 1000000
set_option linter.all false
/-! G16: rows turned back, the undoing of powers, powers, quotients. -/
namespace Dat.K16
open PySem L2
theorem fn_turned : LL.prog.fns[6]? = some ⟨1, 1, ir_turned⟩ := fnA (d := d_turned) rfl
theorem neg_ok {n : Nat} {m : Mem} {q : Rat} : runF LL.prog (n + 1) 6 [encQ q] m = .ok (encQ (-q)) m := by
  rw [runF_at fn_turned rfl]
  have e : encQ (-q) = .tup [.int (-q.num), .int q.den] := rfl
  rw [e]
  simp only [fin_rt, fin_nx, fin_exn, seq_nx, seq_rt, seq_exn, seq_bk, seq_ct, bind_ok, bind_exn, out_ok, out_exn, tst_ok, tst_exn, gc_ok_, gc_exn, gcM_same, asB_bl, selB_t, selB_f, selE_t, selE_f, rdV_some, stT_some, e_var, e_con, e_glo, e_nop, t_bin, t_neg, t_not, t_cmp, t_cmp2, cmp2T_t, cmp2T_f, t_and, t_or, t_if, t_idx, t_tup, t_lst, t_call, t_blt, t_mth, mthT_t, es_nil, ts_cons, b_nil, tb_cons, ts_asg, ts_expr, ts_if, ts_ret, s_rais, seqT_nx, seqT_rt, seqT_exn, seqT_bk, seqT_ct, bindT_ok, bindT_exn, outT_ok, outT_exn, tstT_ok, tstT_exn, asBT_bl, c_eqI, c_neI, c_ltI, c_leI, c_gtI, c_geI, o_addI, o_subI, n_I, abs_N, ix_tup, lift_some, at0, at1, at2, at3, asT_var, asT_tup, asTs_nil, asTs_cons, ctl_call, List.getElem?_cons_zero, List.getElem?_cons_succ, List.set_cons_zero, List.set_cons_succ, List.length_cons, List.length_nil, List.map_cons, List.map_nil, List.cons_append, List.nil_append, List.replicate_succ, List.replicate_zero, Nat.reduceAdd, Nat.reduceSub, Nat.reduceLT, Nat.reduceLeDiff, sz, Option.bind_some, Option.bind_none, Option.map_some, Bool.false_eq_true, if_true, if_false, reduceIte, Nat.zero_add, startE, Bool.not_true, Bool.not_false, decide_true, decide_false, ir_turned, ix0, ix1]
/-! ### turned back -/
def turnedL (p : List Rat) : Nat → List Rat
  | 0 => [0, 1 / p.getD 1 0]
  | k + 1 => turnedL p k ++ [-((putR (cutR p (k + 3)) (cutR (turnedL p k) (k + 3))).getD (k + 2) 0) / p.getD 1 0]
def turnedLW (P : List Wt) : Nat → List Wt
  | 0 => [none, wDiv (some (0, 0)) (P.getD 1 none)]
  | k + 1 => turnedLW P k ++ [wDiv ((putW (cutW P (k + 3)) (cutW (turnedLW P k) (k + 3)) (k + 3)).getD (k + 2) none) (P.getD 1 none)]
def turnedR (p : List Rat) : List Rat := turnedL p (p.length - 2)
def turnedW (P : List Wt) (n : Nat) : List Wt := turnedLW P (n - 2)
theorem turnedL_len (p : List Rat) : ∀ k, (turnedL p k).length = k + 2
  | 0 => rfl
  | k + 1 => by simp [turnedL, turnedL_len p k]
theorem turnedLW_len (P : List Wt) : ∀ k, (turnedLW P k).length = k + 2
  | 0 => rfl
  | k + 1 => by simp [turnedLW, turnedLW_len P k]
theorem hw1 : HW (some (0, 0)) 1 := ⟨by decide, by decide⟩
theorem cutR_ne {p : List Rat} {k : Nat} : cutR p (k + 1) ≠ [] := fun z => by
  have := congrArg List.length z
  rw [cutR_len] at this
  simp at this
theorem turnedL_hl {P : List Wt} {p : List Rat} (hp : HL P p) (h1 : p.getD 1 0 ≠ 0) : ∀ k, HL (turnedLW P k) (turnedL p k)
  | 0 => fun i => match i with
    | 0 => rfl
    | 1 => hw1.div (hp 1) h1
    | i + 2 => rfl
  | k + 1 => by
    have h := put_hl (cut_hl hp (k + 3)) (cut_hl (turnedL_hl hp h1 k) (k + 3)) cutR_ne
    rw [cutR_len] at h
    exact hl_snoc (turnedL_hl hp h1 k) (by rw [turnedL_len, turnedLW_len]) ((h (k + 2)).neg.div (hp 1) h1)
theorem turned_hl {P : List Wt} {p : List Rat} (hp : HL P p) (h1 : p.getD 1 0 ≠ 0) : HL (turnedW P p.length) (turnedR p) := turnedL_hl hp h1 _
def turnedO (P : List Wt) (n : Nat) : Bool := wOks (turnedLW P 0) && (List.range (n - 2)).all fun k => putO (cutW P (k + 3)) (cutW (turnedLW P k) (k + 3)) (k + 3) && (wOks (putW (cutW P (k + 3)) (cutW (turnedLW P k) (k + 3)) (k + 3)) && wOks (turnedLW P (k + 1)))
def tTest : IS := .ifS (.orE (.cmp .Lt (.var 1) (.con (.int 2))) (.orE (.cmp .NotEq (.idx (.idx (.var 0) (.con (.int 0))) (.con (.int 0))) (.con (.int 0))) (.cmp .Eq (.idx (.idx (.var 0) (.con (.int 1))) (.con (.int 0))) (.con (.int 0))))) [(.rais "NoWay")] []
def tInit : IS := .asg (.var 2) (.lst [(.tup [(.con (.int 0)), (.con (.int 1))]), (.call 5 [(.tup [(.con (.int 1)), (.con (.int 1))]), (.idx (.var 0) (.con (.int 1)))])])
def tCnd : IE := .cmp .Lt (.blt .len [(.var 2)]) (.var 1)
def tTri : IS := .asg (.var 3) (.call 7 [(.blt .tuple [(.var 2)]), (.bin .Add (.blt .len [(.var 2)]) (.con (.int 1)))])
def tRes : IS := .asg (.var 4) (.idx (.call 15 [(.call 7 [(.var 0), (.bin .Add (.blt .len [(.var 2)]) (.con (.int 1)))]), (.var 3)]) (.neg (.con (.int 1))))
def tApp : IS := .expr (.mth .append (.var 2) [(.call 5 [(.call 6 [(.var 4)]), (.idx (.var 0) (.con (.int 1)))])])
def tBod : List IS := [tTri, tRes, tApp]
theorem ir_turned_eq : ir_turned_row = [(.asg (.var 1) (.blt .len [(.var 0)])), tTest, tInit, (.whl tCnd tBod), (.ret (.blt .tuple [(.var 2)]))] := rfl
theorem putR_len {p q : List Rat} (h : p ≠ []) : (putR p q).length = p.length := putL_len h _
theorem ix_last {p : List Rat} {k : Nat} {m : Mem} (h : p.length = k + 1) : idxD (rowD p) (.int (-1)) m = .ok (encQ (p.getD k 0)) m := by
  unfold rowD
  rw [ix_tup]
  have : atI (p.map encQ) (-1) = some (encQ (p.getD k 0)) := by
    unfold atI ixN
    rw [List.length_map, h, if_neg (by decide), if_pos (by omega)]
    have : (-1 + ((k + 1 : Nat) : Int)).toNat = k := by omega
    rw [this]
    simp [h]
  rw [this]
  rfl
theorem clo1 (F : List Rat) : Clo [.lst (F.map encQ)] := fun c h => by
  rw [List.mem_singleton.mp h]
  show D.undrL 1 (F.map encQ) = true
  exact undrL_le (by omega) _ (encUL F)
theorem lenL {F : List D} {r : Mem} : bltD .len [.ref 0] (.lst F :: r) = .ok (.int F.length) (.lst F :: r) := rfl
theorem gcN1 {a : D} {c d : Cell} (ha : a.undr 1 = true) (hc : c.undr 1 = true) : gcM 1 a [c, d] = [c] := by
  unfold gcM
  rw [if_pos ⟨ha, by simpa using hc⟩]
  rfl
section
variable {n : Nat}
theorem turned_ok {m : Mem} (hm : Clo m) {P : List Wt} {p : List Rat} {c d : Nat} (hp : HL P p) (hP : wOks P = true) (h0 : p.getD 0 0 = 0) (h1 : p.getD 1 0 ≠ 0) (hP1 : P.getD 1 none = some (c, d)) (hc : c ≤ 8990) (h2 : 2 ≤ p.length) (hn : p.length ≤ 80) (hw : turnedO P p.length = true) : runF LL.prog (n + 6) 16 [rowD p] m = .ok (rowD (turnedR p)) m := by
  refine at_m hm (by simp only [D.undrL, rowU]; rfl) ?_
  have hf : LL.prog.fns[16]? = some ⟨1, 5, ir_turned_row⟩ := fnA (d := d_turned_row) rfl
  rw [runF_at hf rfl]
  obtain ⟨C, hC⟩ : ∃ C, C = LL.prog.ctl (runF LL.prog (n + 5)) (runF LL.prog (n + 5 - 2)) (n + 5) := ⟨_, rfl⟩
  have cc : C.call = runF LL.prog (n + 5) := by rw [hC]; rfl
  have ct : C.turns = 2 ^ 4096 := by rw [hC]; rfl
  rw [← hC]
  unfold turnedO at hw
  rw [Bool.and_eq_true] at hw
  obtain ⟨hw0, hw⟩ := hw
  have hp1 : HW (some (c, d)) (p.getD 1 0) := hP1 ▸ hp 1
  have ok1 : wOk (some (c, d)) = true := by have := wOks_at hP 1; rwa [hP1] at this
  have j1 : ∀ m : Mem, idxD (rowD p) (.int 1) m = .ok (encQ (p.getD 1 0)) m := fun m => ixr (m := m) (k := 1) (by omega)
  have b1 : evalS C tTest [some (rowD p), some (.int p.length), none, none, none] [] = .nx [some (rowD p), some (.int p.length), none, none, none] [] := by
    have i0 := ixr (m := []) (p := p) (k := 0) (by omega)
    rw [show (((0 : Nat) : Nat) : Int) = 0 from rfl, h0] at i0
    have n0 : (0 : Rat).num = 0 := rfl
    have n1 : (p.getD 1 0).num ≠ 0 := fun z => h1 (Rat.num_eq_zero.mp z)
    have hl : ¬ ((p.length : Int) < 2) := by omega
    simp only [fin_rt, fin_nx, fin_exn, seq_nx, seq_rt, seq_exn, seq_bk, seq_ct, bind_ok, bind_exn, out_ok, out_exn, tst_ok, tst_exn, gc_ok_, gc_exn, gcM_same, asB_bl, selB_t, selB_f, selE_t, selE_f, rdV_some, stT_some, e_var, e_con, e_glo, e_nop, t_bin, t_neg, t_not, t_cmp, t_cmp2, cmp2T_t, cmp2T_f, t_and, t_or, t_if, t_idx, t_tup, t_lst, t_call, t_blt, t_mth, mthT_t, es_nil, ts_cons, b_nil, tb_cons, ts_asg, ts_expr, ts_if, ts_ret, s_rais, seqT_nx, seqT_rt, seqT_exn, seqT_bk, seqT_ct, bindT_ok, bindT_exn, outT_ok, outT_exn, tstT_ok, tstT_exn, asBT_bl, c_eqI, c_neI, c_ltI, c_leI, c_gtI, c_geI, o_addI, o_subI, n_I, abs_N, ix_tup, lift_some, at0, at1, at2, at3, asT_var, asT_tup, asTs_nil, asTs_cons, ctl_call, List.getElem?_cons_zero, List.getElem?_cons_succ, List.set_cons_zero, List.set_cons_succ, List.length_cons, List.length_nil, List.map_cons, List.map_nil, List.cons_append, List.nil_append, List.replicate_succ, List.replicate_zero, Nat.reduceAdd, Nat.reduceSub, Nat.reduceLT, Nat.reduceLeDiff, sz, Option.bind_some, Option.bind_none, Option.map_some, Bool.false_eq_true, if_true, if_false, reduceIte, Nat.zero_add, startE, Bool.not_true, Bool.not_false, decide_true, decide_false, tTest, hl, i0, ix0, n0, j1, n1, gcnil]
  have b2 : evalS C tInit [some (rowD p), some (.int p.length), none, none, none] [] = .nx [some (rowD p), some (.int p.length), some (.ref 0), none, none] [.lst ((turnedL p 0).map encQ)] := by
    have t : C.call 5 [.tup [.int 1, .int 1], encQ (p.getD 1 0)] [] = .ok (encQ (1 / p.getD 1 0)) [] := by
      rw [cc]
      refine over_w (n := n + 2) (p := 1) parts f_over hw1 hp1 h1 rfl ok1 hc ?_
      have : wOk (wDiv (some (0, 0)) (P.getD 1 none)) = true := by
        have := wOks_at hw0 1
        exact this
      rwa [hP1] at this
    have g : gcM 0 (.ref 0) [Cell.lst [.tup [.int 0, .int 1], encQ (1 / p.getD 1 0)]] = [Cell.lst [.tup [.int 0, .int 1], encQ (1 / p.getD 1 0)]] := rfl
    have e : (turnedL p 0).map encQ = [.tup [.int 0, .int 1], encQ (1 / p.getD 1 0)] := rfl
    rw [e]
    generalize encQ (1 / p.getD 1 0) = y at t g
    simp only [fin_rt, fin_nx, fin_exn, seq_nx, seq_rt, seq_exn, seq_bk, seq_ct, bind_ok, bind_exn, out_ok, out_exn, tst_ok, tst_exn, gc_ok_, gc_exn, gcM_same, asB_bl, selB_t, selB_f, selE_t, selE_f, rdV_some, stT_some, e_var, e_con, e_glo, e_nop, t_bin, t_neg, t_not, t_cmp, t_cmp2, cmp2T_t, cmp2T_f, t_and, t_or, t_if, t_idx, t_tup, t_lst, t_call, t_blt, t_mth, mthT_t, es_nil, ts_cons, b_nil, tb_cons, ts_asg, ts_expr, ts_if, ts_ret, s_rais, seqT_nx, seqT_rt, seqT_exn, seqT_bk, seqT_ct, bindT_ok, bindT_exn, outT_ok, outT_exn, tstT_ok, tstT_exn, asBT_bl, c_eqI, c_neI, c_ltI, c_leI, c_gtI, c_geI, o_addI, o_subI, n_I, abs_N, ix_tup, lift_some, at0, at1, at2, at3, asT_var, asT_tup, asTs_nil, asTs_cons, ctl_call, List.getElem?_cons_zero, List.getElem?_cons_succ, List.set_cons_zero, List.set_cons_succ, List.length_cons, List.length_nil, List.map_cons, List.map_nil, List.cons_append, List.nil_append, List.replicate_succ, List.replicate_zero, Nat.reduceAdd, Nat.reduceSub, Nat.reduceLT, Nat.reduceLeDiff, sz, Option.bind_some, Option.bind_none, Option.map_some, Bool.false_eq_true, if_true, if_false, reduceIte, Nat.zero_add, startE, Bool.not_true, Bool.not_false, decide_true, decide_false, tInit, j1, t, g]
  have step : ∀ (k : Nat) (o3 o4 : Option D), k < p.length - 2 → ∃ o3' o4', evalB C tBod [some (rowD p), some (.int p.length), some (.ref 0), o3, o4] [.lst ((turnedL p k).map encQ)] = .nx [some (rowD p), some (.int p.length), some (.ref 0), o3', o4'] [.lst ((turnedL p (k + 1)).map encQ)] := by
    intro k o3 o4 hk
    have hO := List.all_eq_true.mp hw k (List.mem_range.mpr hk)
    simp only [Bool.and_eq_true] at hO
    obtain ⟨hO1, hO2, hO3⟩ := hO
    have hF : wOks (turnedLW P k) = true := by
      unfold wOks at hO3 ⊢
      rw [turnedLW, List.all_append, Bool.and_eq_true] at hO3
      exact hO3.1
    have hD : wOk (wDiv ((putW (cutW P (k + 3)) (cutW (turnedLW P k) (k + 3)) (k + 3)).getD (k + 2) none) (some (c, d))) = true := by
      unfold wOks at hO3
      rw [turnedLW, List.all_append, Bool.and_eq_true] at hO3
      rw [hP1] at hO3
      simpa using hO3.2
    have hHL := turnedL_hl hp h1 k
    have hlf := turnedL_len p k
    have cl := clo1 (turnedL p k)
    have hput := put_hl (cut_hl hp (k + 3)) (cut_hl hHL (k + 3)) cutR_ne
    rw [cutR_len] at hput
    have t7 : C.call 7 [rowD (turnedL p k), .int ((k + 3 : Nat) : Int)] [.lst ((turnedL p k).map encQ)] = .ok (rowD (cutR (turnedL p k) (k + 3))) [.lst ((turnedL p k).map encQ)] := by rw [cc]; exact cut_ok (n := n + 4) cl _ (by omega)
    have t8 : C.call 7 [rowD p, .int ((k + 3 : Nat) : Int)] [.lst ((turnedL p k).map encQ)] = .ok (rowD (cutR p (k + 3))) [.lst ((turnedL p k).map encQ)] := by rw [cc]; exact cut_ok (n := n + 4) cl _ (by omega)
    have z0 : (cutR (turnedL p k) (k + 3)).getD 0 0 = 0 := by
      have : ∀ k, (turnedL p k).getD 0 0 = 0 := by
        intro k
        induction k with
        | zero => rfl
        | succ k ih =>
          rw [turnedL, List.getD_eq_getElem?_getD, List.getElem?_append_left (by rw [turnedL_len]; omega), ← List.getD_eq_getElem?_getD, ih]
      have h := this k
      unfold cutR
      simp only [List.getD_eq_getElem?_getD] at h ⊢
      simp [h]
    have t15 : C.call 15 [rowD (cutR p (k + 3)), rowD (cutR (turnedL p k) (k + 3))] [.lst ((turnedL p k).map encQ)] = .ok (rowD (putR (cutR p (k + 3)) (cutR (turnedL p k) (k + 3)))) [.lst ((turnedL p k).map encQ)] := by
      rw [cc]
      refine put_ok (n := n) cl (cut_hl hp (k + 3)) (cut_hl hHL (k + 3)) (cutW_ok hF _) z0 cutR_ne cutR_ne (by rw [cutR_len]; omega) ?_
      rw [cutR_len]
      exact hO1
    have il := ix_last (m := [.lst ((turnedL p k).map encQ)]) (p := putR (cutR p (k + 3)) (cutR (turnedL p k) (k + 3))) (k := k + 2) (by rw [putR_len cutR_ne, cutR_len])
    have t6 : C.call 6 [encQ ((putR (cutR p (k + 3)) (cutR (turnedL p k) (k + 3))).getD (k + 2) 0)] [.lst ((turnedL p k).map encQ)] = .ok (encQ (-((putR (cutR p (k + 3)) (cutR (turnedL p k) (k + 3))).getD (k + 2) 0))) [.lst ((turnedL p k).map encQ)] := by rw [cc]; exact neg_ok (n := n + 4)
    have t5 : C.call 5 [encQ (-((putR (cutR p (k + 3)) (cutR (turnedL p k) (k + 3))).getD (k + 2) 0)), encQ (p.getD 1 0)] [.lst ((turnedL p k).map encQ)] = .ok (encQ (-((putR (cutR p (k + 3)) (cutR (turnedL p k) (k + 3))).getD (k + 2) 0) / p.getD 1 0)) [.lst ((turnedL p k).map encQ)] := by
      rw [cc]
      exact over_w (n := n + 2) parts f_over (hput (k + 2)).neg hp1 h1 (wOks_at hO2 _) ok1 hc hD
    have ap := app0 (F := (turnedL p k).map encQ) (y := encQ (-((putR (cutR p (k + 3)) (cutR (turnedL p k) (k + 3))).getD (k + 2) 0) / p.getD 1 0)) (r := []) (by simp [hlf]; omega)
    have en : (turnedL p (k + 1)).map encQ = (turnedL p k).map encQ ++ [encQ (-((putR (cutR p (k + 3)) (cutR (turnedL p k) (k + 3))).getD (k + 2) 0) / p.getD 1 0)] := by
      rw [turnedL, List.map_append]
      rfl
    rw [en]
    have lk : (((turnedL p k).map encQ).length : Int) + 1 = ((k + 3 : Nat) : Int) := by
      rw [List.length_map, hlf]
      omega
    have tup : bltD .tuple [.ref 0] [.lst ((turnedL p k).map encQ)] = .ok (rowD (turnedL p k)) [.lst ((turnedL p k).map encQ)] := rfl
    generalize encQ (-((putR (cutR p (k + 3)) (cutR (turnedL p k) (k + 3))).getD (k + 2) 0) / p.getD 1 0) = Y at t5 ap
    generalize encQ (-((putR (cutR p (k + 3)) (cutR (turnedL p k) (k + 3))).getD (k + 2) 0)) = Y2 at t5 t6
    generalize encQ ((putR (cutR p (k + 3)) (cutR (turnedL p k) (k + 3))).getD (k + 2) 0) = Y3 at t6 il
    generalize rowD (putR (cutR p (k + 3)) (cutR (turnedL p k) (k + 3))) = R15 at il t15
    generalize rowD (cutR (turnedL p k) (k + 3)) = R3 at t7 t15
    generalize rowD (cutR p (k + 3)) = R4 at t8 t15
    generalize rowD (turnedL p k) = RF at tup t7
    generalize (turnedL p k).map encQ = F at *
    generalize ((k + 3 : Nat) : Int) = K at *
    refine ⟨some R3, some Y3, ?_⟩
    have jj := j1 [.lst F]
    simp only [fin_rt, fin_nx, fin_exn, seq_nx, seq_rt, seq_exn, seq_bk, seq_ct, bind_ok, bind_exn, out_ok, out_exn, tst_ok, tst_exn, gc_ok_, gc_exn, gcM_same, asB_bl, selB_t, selB_f, selE_t, selE_f, rdV_some, stT_some, e_var, e_con, e_glo, e_nop, t_bin, t_neg, t_not, t_cmp, t_cmp2, cmp2T_t, cmp2T_f, t_and, t_or, t_if, t_idx, t_tup, t_lst, t_call, t_blt, t_mth, mthT_t, es_nil, ts_cons, b_nil, tb_cons, ts_asg, ts_expr, ts_if, ts_ret, s_rais, seqT_nx, seqT_rt, seqT_exn, seqT_bk, seqT_ct, bindT_ok, bindT_exn, outT_ok, outT_exn, tstT_ok, tstT_exn, asBT_bl, c_eqI, c_neI, c_ltI, c_leI, c_gtI, c_geI, o_addI, o_subI, n_I, abs_N, ix_tup, lift_some, at0, at1, at2, at3, asT_var, asT_tup, asTs_nil, asTs_cons, ctl_call, List.getElem?_cons_zero, List.getElem?_cons_succ, List.set_cons_zero, List.set_cons_succ, List.length_cons, List.length_nil, List.map_cons, List.map_nil, List.cons_append, List.nil_append, List.replicate_succ, List.replicate_zero, Nat.reduceAdd, Nat.reduceSub, Nat.reduceLT, Nat.reduceLeDiff, sz, Option.bind_some, Option.bind_none, Option.map_some, Bool.false_eq_true, if_true, if_false, reduceIte, Nat.zero_add, startE, Bool.not_true, Bool.not_false, decide_true, decide_false, tBod, tTri, tRes, tApp, lenL, tup, lk, t7, t8, t15, il, t6, jj, t5, isL0, ap, gc1]
  have loop : ∀ (j k : Nat) (o3 o4 : Option D), k + j = p.length - 2 → ∃ o3' o4', whileN (fun e m1 => evalE tCnd C e m1) (fun e m1 => evalB C tBod e m1) (j + 1) [some (rowD p), some (.int p.length), some (.ref 0), o3, o4] [.lst ((turnedL p k).map encQ)] = .nx [some (rowD p), some (.int p.length), some (.ref 0), o3', o4'] [.lst ((turnedR p).map encQ)] := by
    intro j
    induction j with
    | zero =>
      intro k o3 o4 hk
      refine ⟨o3, o4, ?_⟩
      have e : turnedR p = turnedL p k := by unfold turnedR; rw [← hk]; rfl
      have hl : ¬ ((((turnedL p k).map encQ).length : Int) < p.length) := by rw [List.length_map, turnedL_len]; omega
      have c0 : evalE tCnd C [some (rowD p), some (.int p.length), some (.ref 0), o3, o4] [.lst ((turnedL p k).map encQ)] = .ok (.bl false) [.lst ((turnedL p k).map encQ)] := by
        simp only [fin_rt, fin_nx, fin_exn, seq_nx, seq_rt, seq_exn, seq_bk, seq_ct, bind_ok, bind_exn, out_ok, out_exn, tst_ok, tst_exn, gc_ok_, gc_exn, gcM_same, asB_bl, selB_t, selB_f, selE_t, selE_f, rdV_some, stT_some, e_var, e_con, e_glo, e_nop, t_bin, t_neg, t_not, t_cmp, t_cmp2, cmp2T_t, cmp2T_f, t_and, t_or, t_if, t_idx, t_tup, t_lst, t_call, t_blt, t_mth, mthT_t, es_nil, ts_cons, b_nil, tb_cons, ts_asg, ts_expr, ts_if, ts_ret, s_rais, seqT_nx, seqT_rt, seqT_exn, seqT_bk, seqT_ct, bindT_ok, bindT_exn, outT_ok, outT_exn, tstT_ok, tstT_exn, asBT_bl, c_eqI, c_neI, c_ltI, c_leI, c_gtI, c_geI, o_addI, o_subI, n_I, abs_N, ix_tup, lift_some, at0, at1, at2, at3, asT_var, asT_tup, asTs_nil, asTs_cons, ctl_call, List.getElem?_cons_zero, List.getElem?_cons_succ, List.set_cons_zero, List.set_cons_succ, List.length_cons, List.length_nil, List.map_cons, List.map_nil, List.cons_append, List.nil_append, List.replicate_succ, List.replicate_zero, Nat.reduceAdd, Nat.reduceSub, Nat.reduceLT, Nat.reduceLeDiff, sz, Option.bind_some, Option.bind_none, Option.map_some, Bool.false_eq_true, if_true, if_false, reduceIte, Nat.zero_add, startE, Bool.not_true, Bool.not_false, decide_true, decide_false, tCnd, lenL, hl]
      rw [while_succ, c0, tst_ok, gcM_same, e]
      rfl
    | succ j ih =>
      intro k o3 o4 hk
      have hl : (((turnedL p k).map encQ).length : Int) < p.length := by rw [List.length_map, turnedL_len]; omega
      have c0 : evalE tCnd C [some (rowD p), some (.int p.length), some (.ref 0), o3, o4] [.lst ((turnedL p k).map encQ)] = .ok (.bl true) [.lst ((turnedL p k).map encQ)] := by
        simp only [fin_rt, fin_nx, fin_exn, seq_nx, seq_rt, seq_exn, seq_bk, seq_ct, bind_ok, bind_exn, out_ok, out_exn, tst_ok, tst_exn, gc_ok_, gc_exn, gcM_same, asB_bl, selB_t, selB_f, selE_t, selE_f, rdV_some, stT_some, e_var, e_con, e_glo, e_nop, t_bin, t_neg, t_not, t_cmp, t_cmp2, cmp2T_t, cmp2T_f, t_and, t_or, t_if, t_idx, t_tup, t_lst, t_call, t_blt, t_mth, mthT_t, es_nil, ts_cons, b_nil, tb_cons, ts_asg, ts_expr, ts_if, ts_ret, s_rais, seqT_nx, seqT_rt, seqT_exn, seqT_bk, seqT_ct, bindT_ok, bindT_exn, outT_ok, outT_exn, tstT_ok, tstT_exn, asBT_bl, c_eqI, c_neI, c_ltI, c_leI, c_gtI, c_geI, o_addI, o_subI, n_I, abs_N, ix_tup, lift_some, at0, at1, at2, at3, asT_var, asT_tup, asTs_nil, asTs_cons, ctl_call, List.getElem?_cons_zero, List.getElem?_cons_succ, List.set_cons_zero, List.set_cons_succ, List.length_cons, List.length_nil, List.map_cons, List.map_nil, List.cons_append, List.nil_append, List.replicate_succ, List.replicate_zero, Nat.reduceAdd, Nat.reduceSub, Nat.reduceLT, Nat.reduceLeDiff, sz, Option.bind_some, Option.bind_none, Option.map_some, Bool.false_eq_true, if_true, if_false, reduceIte, Nat.zero_add, startE, Bool.not_true, Bool.not_false, decide_true, decide_false, tCnd, lenL, hl]
      obtain ⟨o3', o4', e1⟩ := step k o3 o4 (by omega)
      obtain ⟨o3'', o4'', e2⟩ := ih (k + 1) o3' o4' (by omega)
      refine ⟨o3'', o4'', ?_⟩
      rw [while_succ, c0, tst_ok, gcM_same]
      simp only [if_true, e1]
      exact e2
  obtain ⟨o3, o4, e⟩ := loop (p.length - 2) 0 none none (by omega)
  have e2 : evalS C (.whl tCnd tBod) [some (rowD p), some (.int p.length), some (.ref 0), none, none] [.lst ((turnedL p 0).map encQ)] = .nx [some (rowD p), some (.int p.length), some (.ref 0), o3, o4] [.lst ((turnedR p).map encQ)] := by
    rw [s_whl, ct]
    exact while_of e (by simp) (Nat.le_trans (show p.length - 2 + 1 ≤ 2 ^ 7 by omega) (Nat.pow_le_pow_right (by decide) (by decide)))
  have b0 : evalS C (.asg (.var 1) (.blt .len [(.var 0)])) [some (rowD p), none, none, none, none] [] = .nx [some (rowD p), some (.int p.length), none, none, none] [] := by
    simp only [fin_rt, fin_nx, fin_exn, seq_nx, seq_rt, seq_exn, seq_bk, seq_ct, bind_ok, bind_exn, out_ok, out_exn, tst_ok, tst_exn, gc_ok_, gc_exn, gcM_same, asB_bl, selB_t, selB_f, selE_t, selE_f, rdV_some, stT_some, e_var, e_con, e_glo, e_nop, t_bin, t_neg, t_not, t_cmp, t_cmp2, cmp2T_t, cmp2T_f, t_and, t_or, t_if, t_idx, t_tup, t_lst, t_call, t_blt, t_mth, mthT_t, es_nil, ts_cons, b_nil, tb_cons, ts_asg, ts_expr, ts_if, ts_ret, s_rais, seqT_nx, seqT_rt, seqT_exn, seqT_bk, seqT_ct, bindT_ok, bindT_exn, outT_ok, outT_exn, tstT_ok, tstT_exn, asBT_bl, c_eqI, c_neI, c_ltI, c_leI, c_gtI, c_geI, o_addI, o_subI, n_I, abs_N, ix_tup, lift_some, at0, at1, at2, at3, asT_var, asT_tup, asTs_nil, asTs_cons, ctl_call, List.getElem?_cons_zero, List.getElem?_cons_succ, List.set_cons_zero, List.set_cons_succ, List.length_cons, List.length_nil, List.map_cons, List.map_nil, List.cons_append, List.nil_append, List.replicate_succ, List.replicate_zero, Nat.reduceAdd, Nat.reduceSub, Nat.reduceLT, Nat.reduceLeDiff, sz, Option.bind_some, Option.bind_none, Option.map_some, Bool.false_eq_true, if_true, if_false, reduceIte, Nat.zero_add, startE, Bool.not_true, Bool.not_false, decide_true, decide_false, lenR, gcnil]
  show finF 0 (evalB C ir_turned_row [some (rowD p), none, none, none, none] []) = _
  rw [ir_turned_eq, b_cons, b0, seq_nx, b_cons, b1, seq_nx, b_cons, b2, seq_nx, b_cons, e2, seq_nx]
  have gE := gcR (p := turnedR p) (m := [.lst ((turnedR p).map encQ)])
  have tupE : bltD .tuple [.ref 0] [.lst ((turnedR p).map encQ)] = .ok (rowD (turnedR p)) [.lst ((turnedR p).map encQ)] := rfl
  simp only [fin_rt, fin_nx, fin_exn, seq_nx, seq_rt, seq_exn, seq_bk, seq_ct, bind_ok, bind_exn, out_ok, out_exn, tst_ok, tst_exn, gc_ok_, gc_exn, gcM_same, asB_bl, selB_t, selB_f, selE_t, selE_f, rdV_some, stT_some, e_var, e_con, e_glo, e_nop, t_bin, t_neg, t_not, t_cmp, t_cmp2, cmp2T_t, cmp2T_f, t_and, t_or, t_if, t_idx, t_tup, t_lst, t_call, t_blt, t_mth, mthT_t, es_nil, ts_cons, b_nil, tb_cons, ts_asg, ts_expr, ts_if, ts_ret, s_rais, seqT_nx, seqT_rt, seqT_exn, seqT_bk, seqT_ct, bindT_ok, bindT_exn, outT_ok, outT_exn, tstT_ok, tstT_exn, asBT_bl, c_eqI, c_neI, c_ltI, c_leI, c_gtI, c_geI, o_addI, o_subI, n_I, abs_N, ix_tup, lift_some, at0, at1, at2, at3, asT_var, asT_tup, asTs_nil, asTs_cons, ctl_call, List.getElem?_cons_zero, List.getElem?_cons_succ, List.set_cons_zero, List.set_cons_succ, List.length_cons, List.length_nil, List.map_cons, List.map_nil, List.cons_append, List.nil_append, List.replicate_succ, List.replicate_zero, Nat.reduceAdd, Nat.reduceSub, Nat.reduceLT, Nat.reduceLeDiff, sz, Option.bind_some, Option.bind_none, Option.map_some, Bool.false_eq_true, if_true, if_false, reduceIte, Nat.zero_add, startE, Bool.not_true, Bool.not_false, decide_true, decide_false, tupE, gE]
theorem turned_exn {p : List Rat} {m : Mem} (h0 : p.getD 0 0 ≠ 0) (hl : 2 ≤ p.length) : runF LL.prog (n + 1) 16 [rowD p] m = .exn "NoWay" none m := by
  have hf : LL.prog.fns[16]? = some ⟨1, 5, ir_turned_row⟩ := fnA (d := d_turned_row) rfl
  rw [runF_at hf rfl]
  have i0 := ixr (m := m) (p := p) (k := 0) (by omega)
  rw [show (((0 : Nat) : Nat) : Int) = 0 from rfl] at i0
  have n0 : (p.getD 0 0).num ≠ 0 := fun z => h0 (Rat.num_eq_zero.mp z)
  have hl' : ¬ ((p.length : Int) < 2) := by omega
  rw [ir_turned_eq]
  have g : ∀ a, gcM m.length a m = m := fun b => gcM_same
  simp only [fin_rt, fin_nx, fin_exn, seq_nx, seq_rt, seq_exn, seq_bk, seq_ct, bind_ok, bind_exn, out_ok, out_exn, tst_ok, tst_exn, gc_ok_, gc_exn, gcM_same, asB_bl, selB_t, selB_f, selE_t, selE_f, rdV_some, stT_some, e_var, e_con, e_glo, e_nop, t_bin, t_neg, t_not, t_cmp, t_cmp2, cmp2T_t, cmp2T_f, t_and, t_or, t_if, t_idx, t_tup, t_lst, t_call, t_blt, t_mth, mthT_t, es_nil, ts_cons, b_nil, tb_cons, ts_asg, ts_expr, ts_if, ts_ret, s_rais, seqT_nx, seqT_rt, seqT_exn, seqT_bk, seqT_ct, bindT_ok, bindT_exn, outT_ok, outT_exn, tstT_ok, tstT_exn, asBT_bl, c_eqI, c_neI, c_ltI, c_leI, c_gtI, c_geI, o_addI, o_subI, n_I, abs_N, ix_tup, lift_some, at0, at1, at2, at3, asT_var, asT_tup, asTs_nil, asTs_cons, ctl_call, List.getElem?_cons_zero, List.getElem?_cons_succ, List.set_cons_zero, List.set_cons_succ, List.length_cons, List.length_nil, List.map_cons, List.map_nil, List.cons_append, List.nil_append, List.replicate_succ, List.replicate_zero, Nat.reduceAdd, Nat.reduceSub, Nat.reduceLT, Nat.reduceLeDiff, sz, Option.bind_some, Option.bind_none, Option.map_some, Bool.false_eq_true, if_true, if_false, reduceIte, Nat.zero_add, startE, Bool.not_true, Bool.not_false, decide_true, decide_false, tTest, lenR, hl', i0, ix0, n0, g]
end
end Dat.K16

/-! H16 -/
set_option maxRecDepth 100000
set_option maxHeartbeats 1000000
set_option linter.all false
/-! H16: the undoing, powers, quotients; weights. -/
namespace Dat.K16
open PySem L2
def logR (p : List Rat) : List Rat := sumsR ((prodR (cutR (slopeR p) p.length) (backR p)).take (p.length - 1)) 0
def logW (P : List Wt) (n : Nat) : List Wt := sumsW ((prodW (cutW (slopeW P n) n) (backW P n) n).take (n - 1)) none (n - 1)
def logO (P : List Wt) (n : Nat) : Bool := (wOks (slopeW P n) && backO P n) && (wOks (backW P n) && (wOks (prodW (cutW (slopeW P n) n) (backW P n) n) && wOks ((List.range (n - 1)).map fun k => wDiv (((prodW (cutW (slopeW P n) n) (backW P n) n).take (n - 1)).getD k none) (iW (k + 1)))))
theorem backR_len (p : List Rat) : (backR p).length = p.length := backL_len p _
theorem hl_take {P : List Wt} {p : List Rat} (h : HL P p) (hl : P.length = p.length) (n : Nat) : HL (P.take n) (p.take n) := by
  intro i
  by_cases hi : i < n
  · have e1 : (P.take n).getD i none = P.getD i none := by simp only [List.getD_eq_getElem?_getD, List.getElem?_take, hi, if_true]
    have e2 : (p.take n).getD i 0 = p.getD i 0 := by simp only [List.getD_eq_getElem?_getD, List.getElem?_take, hi, if_true]
    rw [e1, e2]
    exact h i
  · have e1 : (P.take n).getD i none = none := by simp only [List.getD_eq_getElem?_getD, List.getElem?_take, hi, if_false]; rfl
    have e2 : (p.take n).getD i 0 = 0 := by simp only [List.getD_eq_getElem?_getD, List.getElem?_take, hi, if_false]; rfl
    rw [e1, e2]
    rfl
theorem wOks_take {P : List Wt} (h : wOks P = true) (n : Nat) : wOks (P.take n) = true := by
  unfold wOks at *
  rw [List.all_eq_true] at *
  exact fun x hx => h x (List.mem_of_mem_take hx)
theorem prodW_len (P Q : List Wt) (n : Nat) : (prodW P Q n).length = n := by simp [prodW]
theorem back_hl {P : List Wt} {p : List Rat} (hp : HL P p) (h0 : p.getD 0 0 ≠ 0) : HL (backW P p.length) (backR p) := backL_hl hp h0 _
theorem inner_hl {P : List Wt} {p : List Rat} (hp : HL P p) (h0 : p.getD 0 0 ≠ 0) : HL (prodW (cutW (slopeW P p.length) p.length) (backW P p.length) p.length) (prodR (cutR (slopeR p) p.length) (backR p)) := by
  have h := prod_hl (cut_hl (slope_hl hp) p.length) (back_hl hp h0)
  rw [cutR_len] at h
  exact h
theorem log_hl {P : List Wt} {p : List Rat} (hp : HL P p) (h0 : p.getD 0 0 ≠ 0) : HL (logW P p.length) (logR p) := by
  have h := hl_take (inner_hl hp h0) (by rw [prodW_len, prodR_len, cutR_len]) (p.length - 1)
  have h2 := sums_hl h (w := none) (s := 0) rfl
  have e : ((prodR (cutR (slopeR p) p.length) (backR p)).take (p.length - 1)).length = p.length - 1 := by
    rw [List.length_take, prodR_len, cutR_len]
    omega
  rw [e] at h2
  exact h2
theorem sumsR_len (p : List Rat) (s : Rat) : (sumsR p s).length = p.length + 1 := by simp [sumsR]
theorem logR_len {p : List Rat} (h : p ≠ []) : (logR p).length = p.length := by
  have := List.length_pos_iff.mpr h
  unfold logR
  rw [sumsR_len, List.length_take, prodR_len, cutR_len]
  omega
theorem logR_0 {p : List Rat} : (logR p).getD 0 0 = 0 := rfl
def lTest : IS := .ifS (.orE (.cmp .Eq (.var 0) (.tup [])) (.cmp .NotEq (.idx (.var 0) (.con (.int 0))) (.tup [(.con (.int 1)), (.con (.int 1))]))) [(.rais "NoWay")] []
def lMul : IS := .asg (.var 1) (.call 11 [(.call 7 [(.call 13 [(.var 0)]), (.blt .len [(.var 0)])]), (.call 12 [(.var 0)])])
def lRet : IS := .ret (.call 14 [(.slc false true (.var 1) .nop (.bin .Sub (.blt .len [(.var 0)]) (.con (.int 1)))), (.tup [(.con (.int 0)), (.con (.int 1))])])
theorem ir_log_eq : ir_log_row = [lTest, lMul, lRet] := rfl
theorem ne_encs {p q : Rat} {m : Mem} : cmpD .NotEq (encQ p) (encQ q) m = .ok (.bl (!decide (p = q))) m := by
  have h1 := lay_row [p]
  have sh : ∀ q : Rat, SeqAt.shaped (pyQ q) = true := fun q => by
    have e1 : PyData.canLay0 (pyQ q) = true := by
      have := (lay_ints [q.num, (q.den : Int)]).1
      simpa only [pyQ, PyData.canLay0, List.map_cons, List.map_nil] using this
    have e2 : PyData.depth (pyQ q) ≤ 1 := by
      have := (lay_ints [q.num, (q.den : Int)]).2
      simp only [List.map_cons, List.map_nil] at this
      simp only [pyQ, PyData.depth, this]
      decide
    unfold SeqAt.shaped
    rw [e1, Bool.true_and]
    exact decide_eq_true (by omega)
  have e : eqD m (encQ p) (encQ q) = some (decide (p = q)) := by
    have t : ∀ q : Rat, toPy m (encQ q) = some (pyQ q) := fun q => rfl
    unfold eqD
    simp only [t]
    rw [if_pos ⟨sh p, sh q⟩]
    have v : PyData.eqv (pyQ p) (pyQ q) = (decide (p.num = q.num) && (decide ((p.den : Int) = q.den) && true)) := by
      simp [pyQ, PyData.eqv, PyData.eqvAll, BEq.beq]
    rw [v, Bool.and_true]
    congr 1
    by_cases h : p = q
    · subst h; simp
    · have : ¬ (p.num = q.num ∧ (p.den : Int) = q.den) := fun ⟨a, b⟩ => h (Rat.ext a (by omega))
      simp only [decide_eq_false h, Bool.and_eq_false_iff, decide_eq_false_iff_not]
      by_cases hn : p.num = q.num
      · exact .inr fun z => this ⟨hn, z⟩
      · exact .inl hn
  simp only [cmpD, e, liftO, Option.map_some]
section
variable {n : Nat}
theorem log_ok {m : Mem} (hm : Clo m) {P : List Wt} {p : List Rat} {c d : Nat} (hp : HL P p) (hP : wOks P = true) (h0 : p.getD 0 0 = 1) (hP0 : P.getD 0 none = some (c, d)) (hc : c ≤ 8990) (hn : p.length ≤ 80) (hw : logO P p.length = true) : runF LL.prog (n + 5) 18 [rowD p] m = .ok (rowD (logR p)) m := by
  refine at_m hm (by simp only [D.undrL, rowU]; rfl) ?_
  have hf : LL.prog.fns[18]? = some ⟨1, 2, ir_log_row⟩ := fnA (d := d_log_row) rfl
  rw [runF_at hf rfl]
  obtain ⟨C, hC⟩ : ∃ C, C = LL.prog.ctl (runF LL.prog (n + 4)) (runF LL.prog (n + 4 - 2)) (n + 4) := ⟨_, rfl⟩
  have cc : C.call = runF LL.prog (n + 4) := by rw [hC]; rfl
  rw [← hC]
  unfold logO at hw
  simp only [Bool.and_eq_true] at hw
  obtain ⟨⟨w1, w2⟩, w3, w4, w5⟩ := hw
  have h0' : p.getD 0 0 ≠ 0 := by rw [h0]; decide
  have hne : p ≠ [] := fun z => h0' (by rw [z]; rfl)
  have hl0 := List.length_pos_iff.mpr hne
  have b1 : evalS C lTest [some (rowD p), none] [] = .nx [some (rowD p), none] [] := by
    have i0 := ixr (m := []) hl0
    rw [show (((0 : Nat) : Nat) : Int) = 0 from rfl, h0] at i0
    have ne : cmpD .NotEq (encQ 1) (.tup [.int 1, .int 1]) [] = .ok (.bl false) [] := by
      have := ne_encs (p := 1) (q := 1) (m := [])
      exact this
    generalize encQ 1 = o at i0 ne
    simp only [fin_rt, fin_nx, fin_exn, seq_nx, seq_rt, seq_exn, seq_bk, seq_ct, bind_ok, bind_exn, out_ok, out_exn, tst_ok, tst_exn, gc_ok_, gc_exn, gcM_same, asB_bl, selB_t, selB_f, selE_t, selE_f, rdV_some, stT_some, e_var, e_con, e_glo, e_nop, t_bin, t_neg, t_not, t_cmp, t_cmp2, cmp2T_t, cmp2T_f, t_and, t_or, t_if, t_idx, t_tup, t_lst, t_call, t_blt, t_mth, mthT_t, es_nil, ts_cons, b_nil, tb_cons, ts_asg, ts_expr, ts_if, ts_ret, s_rais, seqT_nx, seqT_rt, seqT_exn, seqT_bk, seqT_ct, bindT_ok, bindT_exn, outT_ok, outT_exn, tstT_ok, tstT_exn, asBT_bl, c_eqI, c_neI, c_ltI, c_leI, c_gtI, c_geI, o_addI, o_subI, n_I, abs_N, ix_tup, lift_some, at0, at1, at2, at3, asT_var, asT_tup, asTs_nil, asTs_cons, ctl_call, List.getElem?_cons_zero, List.getElem?_cons_succ, List.set_cons_zero, List.set_cons_succ, List.length_cons, List.length_nil, List.map_cons, List.map_nil, List.cons_append, List.nil_append, List.replicate_succ, List.replicate_zero, Nat.reduceAdd, Nat.reduceSub, Nat.reduceLT, Nat.reduceLeDiff, sz, Option.bind_some, Option.bind_none, Option.map_some, Bool.false_eq_true, if_true, if_false, reduceIte, Nat.zero_add, startE, Bool.not_true, Bool.not_false, decide_true, decide_false, lTest, eq_emp hne, i0, ne, gcnil]
  have t13 : C.call 13 [rowD p] [] = .ok (rowD (slopeR p)) [] := by rw [cc]; exact slope_ok (n := n) clo_nil hp (by omega) hP w1
  have t7 : C.call 7 [rowD (slopeR p), .int p.length] [] = .ok (rowD (cutR (slopeR p) p.length)) [] := by rw [cc]; exact cut_ok (n := n + 3) clo_nil _ (by omega)
  have t12 : C.call 12 [rowD p] [] = .ok (rowD (backR p)) [] := by rw [cc]; exact back_ok (n := n) clo_nil hp hP h0' hP0 hc (by omega) w2
  have t11 : C.call 11 [rowD (cutR (slopeR p) p.length), rowD (backR p)] [] = .ok (rowD (prodR (cutR (slopeR p) p.length) (backR p))) [] := by
    rw [cc]
    refine prod_ok (n := n) clo_nil (cut_hl (slope_hl hp) _) (back_hl hp h0') (cutW_ok w1 _) w3 (by rw [cutR_len, backR_len]; exact Nat.le_refl _) (by rw [cutR_len]; omega) ?_
    rw [cutR_len]
    exact w4
  have b2 : evalS C lMul [some (rowD p), none] [] = .nx [some (rowD p), some (rowD (prodR (cutR (slopeR p) p.length) (backR p)))] [] := by
    simp only [fin_rt, fin_nx, fin_exn, seq_nx, seq_rt, seq_exn, seq_bk, seq_ct, bind_ok, bind_exn, out_ok, out_exn, tst_ok, tst_exn, gc_ok_, gc_exn, gcM_same, asB_bl, selB_t, selB_f, selE_t, selE_f, rdV_some, stT_some, e_var, e_con, e_glo, e_nop, t_bin, t_neg, t_not, t_cmp, t_cmp2, cmp2T_t, cmp2T_f, t_and, t_or, t_if, t_idx, t_tup, t_lst, t_call, t_blt, t_mth, mthT_t, es_nil, ts_cons, b_nil, tb_cons, ts_asg, ts_expr, ts_if, ts_ret, s_rais, seqT_nx, seqT_rt, seqT_exn, seqT_bk, seqT_ct, bindT_ok, bindT_exn, outT_ok, outT_exn, tstT_ok, tstT_exn, asBT_bl, c_eqI, c_neI, c_ltI, c_leI, c_gtI, c_geI, o_addI, o_subI, n_I, abs_N, ix_tup, lift_some, at0, at1, at2, at3, asT_var, asT_tup, asTs_nil, asTs_cons, ctl_call, List.getElem?_cons_zero, List.getElem?_cons_succ, List.set_cons_zero, List.set_cons_succ, List.length_cons, List.length_nil, List.map_cons, List.map_nil, List.cons_append, List.nil_append, List.replicate_succ, List.replicate_zero, Nat.reduceAdd, Nat.reduceSub, Nat.reduceLT, Nat.reduceLeDiff, sz, Option.bind_some, Option.bind_none, Option.map_some, Bool.false_eq_true, if_true, if_false, reduceIte, Nat.zero_add, startE, Bool.not_true, Bool.not_false, decide_true, decide_false, lMul, t13, lenR, t7, t12, t11, gcnil]
  have tl : ((prodR (cutR (slopeR p) p.length) (backR p)).take (p.length - 1)).length = p.length - 1 := by
    rw [List.length_take, prodR_len, cutR_len]
    omega
  have t14 : C.call 14 [rowD ((prodR (cutR (slopeR p) p.length) (backR p)).take (p.length - 1)), encQ 0] [] = .ok (rowD (logR p)) [] := by
    rw [cc]
    refine sums_ok (n := n) clo_nil (hl_take (inner_hl hp h0') (by rw [prodW_len, prodR_len, cutR_len]) _) (by rw [tl]; omega) (wOks_take w4 _) ?_
    rw [tl]
    exact w5
  have e3 : evalE (.slc false true (.var 1) .nop (.bin .Sub (.blt .len [(.var 0)]) (.con (.int 1)))) C [some (rowD p), some (rowD (prodR (cutR (slopeR p) p.length) (backR p)))] [] = .ok (rowD ((prodR (cutR (slopeR p) p.length) (backR p)).take (p.length - 1))) [] := by
    have lk : (p.length : Int) - 1 = ((p.length - 1 : Nat) : Int) := by omega
    rw [e_slc01]
    simp only [fin_rt, fin_nx, fin_exn, seq_nx, seq_rt, seq_exn, seq_bk, seq_ct, bind_ok, bind_exn, out_ok, out_exn, tst_ok, tst_exn, gc_ok_, gc_exn, gcM_same, asB_bl, selB_t, selB_f, selE_t, selE_f, rdV_some, stT_some, e_var, e_con, e_glo, e_nop, t_bin, t_neg, t_not, t_cmp, t_cmp2, cmp2T_t, cmp2T_f, t_and, t_or, t_if, t_idx, t_tup, t_lst, t_call, t_blt, t_mth, mthT_t, es_nil, ts_cons, b_nil, tb_cons, ts_asg, ts_expr, ts_if, ts_ret, s_rais, seqT_nx, seqT_rt, seqT_exn, seqT_bk, seqT_ct, bindT_ok, bindT_exn, outT_ok, outT_exn, tstT_ok, tstT_exn, asBT_bl, c_eqI, c_neI, c_ltI, c_leI, c_gtI, c_geI, o_addI, o_subI, n_I, abs_N, ix_tup, lift_some, at0, at1, at2, at3, asT_var, asT_tup, asTs_nil, asTs_cons, ctl_call, List.getElem?_cons_zero, List.getElem?_cons_succ, List.set_cons_zero, List.set_cons_succ, List.length_cons, List.length_nil, List.map_cons, List.map_nil, List.cons_append, List.nil_append, List.replicate_succ, List.replicate_zero, Nat.reduceAdd, Nat.reduceSub, Nat.reduceLT, Nat.reduceLeDiff, sz, Option.bind_some, Option.bind_none, Option.map_some, Bool.false_eq_true, if_true, if_false, reduceIte, Nat.zero_add, startE, Bool.not_true, Bool.not_false, decide_true, decide_false, lenR, lk, partD]
    unfold rowD
    simp only [slcD]
    rw [cut_take, List.map_take]
  rw [enc0] at t14
  have gE := gcR (p := logR p) (m := [])
  show finF 0 (evalB C ir_log_row [some (rowD p), none] []) = _
  rw [ir_log_eq, b_cons, b1, seq_nx, b_cons, b2, seq_nx]
  simp only [fin_rt, fin_nx, fin_exn, seq_nx, seq_rt, seq_exn, seq_bk, seq_ct, bind_ok, bind_exn, out_ok, out_exn, tst_ok, tst_exn, gc_ok_, gc_exn, gcM_same, asB_bl, selB_t, selB_f, selE_t, selE_f, rdV_some, stT_some, e_var, e_con, e_glo, e_nop, t_bin, t_neg, t_not, t_cmp, t_cmp2, cmp2T_t, cmp2T_f, t_and, t_or, t_if, t_idx, t_tup, t_lst, t_call, t_blt, t_mth, mthT_t, es_nil, ts_cons, b_nil, tb_cons, ts_asg, ts_expr, ts_if, ts_ret, s_rais, seqT_nx, seqT_rt, seqT_exn, seqT_bk, seqT_ct, bindT_ok, bindT_exn, outT_ok, outT_exn, tstT_ok, tstT_exn, asBT_bl, c_eqI, c_neI, c_ltI, c_leI, c_gtI, c_geI, o_addI, o_subI, n_I, abs_N, ix_tup, lift_some, at0, at1, at2, at3, asT_var, asT_tup, asTs_nil, asTs_cons, ctl_call, List.getElem?_cons_zero, List.getElem?_cons_succ, List.set_cons_zero, List.set_cons_succ, List.length_cons, List.length_nil, List.map_cons, List.map_nil, List.cons_append, List.nil_append, List.replicate_succ, List.replicate_zero, Nat.reduceAdd, Nat.reduceSub, Nat.reduceLT, Nat.reduceLeDiff, sz, Option.bind_some, Option.bind_none, Option.map_some, Bool.false_eq_true, if_true, if_false, reduceIte, Nat.zero_add, startE, Bool.not_true, Bool.not_false, decide_true, decide_false, lRet, e3, t14, gE]
theorem log_exn {p : List Rat} {m : Mem} (h0 : p.getD 0 0 ≠ 1) (hne : p ≠ []) : runF LL.prog (n + 1) 18 [rowD p] m = .exn "NoWay" none m := by
  have hf : LL.prog.fns[18]? = some ⟨1, 2, ir_log_row⟩ := fnA (d := d_log_row) rfl
  rw [runF_at hf rfl]
  have i0 := ixr (m := m) (List.length_pos_iff.mpr hne)
  rw [show (((0 : Nat) : Nat) : Int) = 0 from rfl] at i0
  have ne : cmpD .NotEq (encQ (p.getD 0 0)) (.tup [.int 1, .int 1]) m = .ok (.bl true) m := by
    have := ne_encs (p := p.getD 0 0) (q := 1) (m := m)
    rw [decide_eq_false h0] at this
    exact this
  rw [ir_log_eq]
  have g : ∀ a, gcM m.length a m = m := fun b => gcM_same
  generalize encQ (p.getD 0 0) = X at i0 ne
  simp only [fin_rt, fin_nx, fin_exn, seq_nx, seq_rt, seq_exn, seq_bk, seq_ct, bind_ok, bind_exn, out_ok, out_exn, tst_ok, tst_exn, gc_ok_, gc_exn, gcM_same, asB_bl, selB_t, selB_f, selE_t, selE_f, rdV_some, stT_some, e_var, e_con, e_glo, e_nop, t_bin, t_neg, t_not, t_cmp, t_cmp2, cmp2T_t, cmp2T_f, t_and, t_or, t_if, t_idx, t_tup, t_lst, t_call, t_blt, t_mth, mthT_t, es_nil, ts_cons, b_nil, tb_cons, ts_asg, ts_expr, ts_if, ts_ret, s_rais, seqT_nx, seqT_rt, seqT_exn, seqT_bk, seqT_ct, bindT_ok, bindT_exn, outT_ok, outT_exn, tstT_ok, tstT_exn, asBT_bl, c_eqI, c_neI, c_ltI, c_leI, c_gtI, c_geI, o_addI, o_subI, n_I, abs_N, ix_tup, lift_some, at0, at1, at2, at3, asT_var, asT_tup, asTs_nil, asTs_cons, ctl_call, List.getElem?_cons_zero, List.getElem?_cons_succ, List.set_cons_zero, List.set_cons_succ, List.length_cons, List.length_nil, List.map_cons, List.map_nil, List.cons_append, List.nil_append, List.replicate_succ, List.replicate_zero, Nat.reduceAdd, Nat.reduceSub, Nat.reduceLT, Nat.reduceLeDiff, sz, Option.bind_some, Option.bind_none, Option.map_some, Bool.false_eq_true, if_true, if_false, reduceIte, Nat.zero_add, startE, Bool.not_true, Bool.not_false, decide_true, decide_false, lTest, eq_emp hne, i0, ne, g]
def powR (p : List Rat) (a : Rat) : List Rat := expR (scaledR (logR p) a)
def powW (P : List Wt) (w : Wt) (n : Nat) : List Wt := expW (scaledW (logW P n) w n) n
def powO (P : List Wt) (w : Wt) (n : Nat) : Bool := (logO P n && wOks (logW P n)) && (wOks (scaledW (logW P n) w n) && expO (scaledW (logW P n) w n) n)
theorem scaledR_len (p : List Rat) (a : Rat) : (scaledR p a).length = p.length := by simp [scaledR]
theorem exp_hl {P : List Wt} {p : List Rat} (hp : HL P p) : HL (expW P p.length) (expR p) := expL_hl hp _
theorem pow_hl {P : List Wt} {p : List Rat} {w : Wt} {a : Rat} (hp : HL P p) (h0 : p.getD 0 0 = 1) (ha : HW w a) : HL (powW P w p.length) (powR p a) := by
  have hne : p ≠ [] := fun z => by rw [z] at h0; exact absurd h0 (by decide)
  have h := scaled_hl (log_hl hp (by rw [h0]; decide)) ha
  rw [logR_len hne] at h
  have h2 := exp_hl h
  rw [scaledR_len, logR_len hne] at h2
  exact h2
theorem scaled_0 {p : List Rat} {a : Rat} (h : p.getD 0 0 = 0) : (scaledR p a).getD 0 0 = 0 := by
  unfold scaledR
  cases p with
  | nil => rfl
  | cons x p =>
    have : x = 0 := h
    subst this
    simp only [List.length_cons]
    rw [List.range_succ_eq_map]
    simp
theorem pow_ok {m : Mem} (hm : Clo m) {P : List Wt} {p : List Rat} {w : Wt} {a : Rat} {c d : Nat} (hp : HL P p) (hP : wOks P = true) (h0 : p.getD 0 0 = 1) (hP0 : P.getD 0 none = some (c, d)) (hc : c ≤ 8990) (hn : p.length ≤ 80) (ha : HW w a) (hw0 : wOk w = true) (hw : powO P w p.length = true) : runF LL.prog (n + 6) 19 [rowD p, encQ a] m = .ok (rowD (powR p a)) m := by
  have hf : LL.prog.fns[19]? = some ⟨2, 2, ir_power_row⟩ := fnA (d := d_power_row) rfl
  rw [runF_at hf rfl]
  unfold powO at hw
  simp only [Bool.and_eq_true] at hw
  obtain ⟨⟨w1, w2⟩, w3, w4⟩ := hw
  have hne : p ≠ [] := fun z => by rw [z] at h0; exact absurd h0 (by decide)
  have hlog := log_hl hp (by rw [h0]; decide)
  have hl := logR_len hne
  have t18 := log_ok (n := n) hm hp hP h0 hP0 hc hn w1
  have t10 := scaled_ok (n := n + 1) (a := a) hm hlog ha (by rw [hl]; omega) w2 hw0 (by rw [hl]; exact w3)
  have hs := scaled_hl hlog ha
  rw [hl] at hs
  have t17 := exp_ok (n := n + 1) hm hs w3 (scaled_0 logR_0) (fun z => by
    have := congrArg List.length z
    rw [scaledR_len, hl] at this
    simp at this
    exact hne this) (by rw [scaledR_len, hl]; omega) (by rw [scaledR_len, hl]; exact w4)
  have e : runF LL.prog (n + 5) 17 [rowD (scaledR (logR p) a)] m = .ok (rowD (powR p a)) m := t17
  have t10' : runF LL.prog (n + 5) 10 [rowD (logR p), encQ a] m = .ok (rowD (scaledR (logR p) a)) m := t10
  generalize rowD (scaledR (logR p) a) = S at e t10'
  generalize rowD (logR p) = Lg at t10' t18
  generalize rowD (powR p a) = R at e
  simp only [fin_rt, fin_nx, fin_exn, seq_nx, seq_rt, seq_exn, seq_bk, seq_ct, bind_ok, bind_exn, out_ok, out_exn, tst_ok, tst_exn, gc_ok_, gc_exn, gcM_same, asB_bl, selB_t, selB_f, selE_t, selE_f, rdV_some, stT_some, e_var, e_con, e_glo, e_nop, t_bin, t_neg, t_not, t_cmp, t_cmp2, cmp2T_t, cmp2T_f, t_and, t_or, t_if, t_idx, t_tup, t_lst, t_call, t_blt, t_mth, mthT_t, es_nil, ts_cons, b_nil, tb_cons, ts_asg, ts_expr, ts_if, ts_ret, s_rais, seqT_nx, seqT_rt, seqT_exn, seqT_bk, seqT_ct, bindT_ok, bindT_exn, outT_ok, outT_exn, tstT_ok, tstT_exn, asBT_bl, c_eqI, c_neI, c_ltI, c_leI, c_gtI, c_geI, o_addI, o_subI, n_I, abs_N, ix_tup, lift_some, at0, at1, at2, at3, asT_var, asT_tup, asTs_nil, asTs_cons, ctl_call, List.getElem?_cons_zero, List.getElem?_cons_succ, List.set_cons_zero, List.set_cons_succ, List.length_cons, List.length_nil, List.map_cons, List.map_nil, List.cons_append, List.nil_append, List.replicate_succ, List.replicate_zero, Nat.reduceAdd, Nat.reduceSub, Nat.reduceLT, Nat.reduceLeDiff, sz, Option.bind_some, Option.bind_none, Option.map_some, Bool.false_eq_true, if_true, if_false, reduceIte, Nat.zero_add, startE, Bool.not_true, Bool.not_false, decide_true, decide_false, ir_power_row, t18, t10', e]
theorem root_ok {m : Mem} (hm : Clo m) {P : List Wt} {p : List Rat} {c d : Nat} (hp : HL P p) (hP : wOks P = true) (h0 : p.getD 0 0 = 1) (hP0 : P.getD 0 none = some (c, d)) (hc : c ≤ 8990) (hn : p.length ≤ 80) (hw : powO P (some (0, 1)) p.length = true) : runF LL.prog (n + 7) 20 [rowD p] m = .ok (rowD (powR p (1 / 2))) m := by
  have hf : LL.prog.fns[20]? = some ⟨1, 1, ir_root_row⟩ := fnA (d := d_root_row) rfl
  rw [runF_at hf rfl]
  have h2 : HW (some (0, 1)) (1 / 2 : Rat) := ⟨by decide +kernel, by decide +kernel⟩
  have t := pow_ok (n := n) hm hp hP h0 hP0 hc hn h2 (by decide) hw
  have e : encQ (1 / 2) = .tup [.int 1, .int 2] := by
    have e1 : (1 / 2 : Rat).num = 1 := by decide +kernel
    have e2 : (1 / 2 : Rat).den = 2 := by decide +kernel
    unfold encQ
    rw [e1, e2]
    rfl
  rw [e] at t
  generalize rowD (powR p (1 / 2)) = R at t
  simp only [fin_rt, fin_nx, fin_exn, seq_nx, seq_rt, seq_exn, seq_bk, seq_ct, bind_ok, bind_exn, out_ok, out_exn, tst_ok, tst_exn, gc_ok_, gc_exn, gcM_same, asB_bl, selB_t, selB_f, selE_t, selE_f, rdV_some, stT_some, e_var, e_con, e_glo, e_nop, t_bin, t_neg, t_not, t_cmp, t_cmp2, cmp2T_t, cmp2T_f, t_and, t_or, t_if, t_idx, t_tup, t_lst, t_call, t_blt, t_mth, mthT_t, es_nil, ts_cons, b_nil, tb_cons, ts_asg, ts_expr, ts_if, ts_ret, s_rais, seqT_nx, seqT_rt, seqT_exn, seqT_bk, seqT_ct, bindT_ok, bindT_exn, outT_ok, outT_exn, tstT_ok, tstT_exn, asBT_bl, c_eqI, c_neI, c_ltI, c_leI, c_gtI, c_geI, o_addI, o_subI, n_I, abs_N, ix_tup, lift_some, at0, at1, at2, at3, asT_var, asT_tup, asTs_nil, asTs_cons, ctl_call, List.getElem?_cons_zero, List.getElem?_cons_succ, List.set_cons_zero, List.set_cons_succ, List.length_cons, List.length_nil, List.map_cons, List.map_nil, List.cons_append, List.nil_append, List.replicate_succ, List.replicate_zero, Nat.reduceAdd, Nat.reduceSub, Nat.reduceLT, Nat.reduceLeDiff, sz, Option.bind_some, Option.bind_none, Option.map_some, Bool.false_eq_true, if_true, if_false, reduceIte, Nat.zero_add, startE, Bool.not_true, Bool.not_false, decide_true, decide_false, ir_root_row, t]
def quoR (p q : List Rat) (N : Nat) : List Rat := prodR (cutR p N) (backR (cutR q N))
theorem quo_ok {m : Mem} (hm : Clo m) {P Q : List Wt} {p q : List Rat} {c d : Nat} {N : Nat} (hp : HL P p) (hq : HL Q q) (hP : wOks P = true) (hQ : wOks Q = true) (h0 : q.getD 0 0 ≠ 0) (hQ0 : Q.getD 0 none = some (c, d)) (hc : c ≤ 8990) (hN : 0 < N) (hn : N ≤ 80) (w1 : backO (cutW Q N) N = true) (w2 : wOks (backW (cutW Q N) N) = true) (w3 : wOks (prodW (cutW P N) (backW (cutW Q N) N) N) = true) :
    runF LL.prog (n + 5) 21 [rowD p, rowD q, .int N] m = .ok (rowD (quoR p q N)) m := by
  have hf : LL.prog.fns[21]? = some ⟨3, 3, ir_of_quotient⟩ := fnA (d := d_of_quotient) rfl
  rw [runF_at hf rfl]
  have z0 : (cutR q N).getD 0 0 = q.getD 0 0 := by
    unfold cutR
    cases N with
    | zero => omega
    | succ N => rw [List.range_succ_eq_map]; simp
  have z1 : (cutW Q N).getD 0 none = Q.getD 0 none := by
    unfold cutW
    cases N with
    | zero => omega
    | succ N => rw [List.range_succ_eq_map]; simp
  have t1 := cut_ok (n := n + 3) hm p (N := N) (by omega)
  have t2 := cut_ok (n := n + 3) hm q (N := N) (by omega)
  have hc2 := cut_hl hq N
  have t3 := back_ok (n := n) hm hc2 (cutW_ok hQ N) (by rw [z0]; exact h0) (by rw [z1]; exact hQ0) hc (by rw [cutR_len]; omega) (by rw [cutR_len]; exact w1)
  have hb := back_hl hc2 (by rw [z0]; exact h0)
  rw [cutR_len] at hb
  have t4 := prod_ok (n := n) hm (cut_hl hp N) hb (cutW_ok hP N) w2 (by rw [cutR_len, backR_len, cutR_len]; exact Nat.le_refl _) (by rw [cutR_len]; omega) (by rw [cutR_len]; exact w3)
  have t4' : runF LL.prog (n + 4) 11 [rowD (cutR p N), rowD (backR (cutR q N))] m = .ok (rowD (quoR p q N)) m := t4
  have t1' : runF LL.prog (n + 4) 7 [rowD p, .int N] m = .ok (rowD (cutR p N)) m := t1
  have t2' : runF LL.prog (n + 4) 7 [rowD q, .int N] m = .ok (rowD (cutR q N)) m := t2
  generalize rowD (quoR p q N) = R at t4'
  generalize rowD (backR (cutR q N)) = B at t3 t4'
  generalize rowD (cutR p N) = A at t1' t4'
  generalize rowD (cutR q N) = Cq at t2' t3
  simp only [fin_rt, fin_nx, fin_exn, seq_nx, seq_rt, seq_exn, seq_bk, seq_ct, bind_ok, bind_exn, out_ok, out_exn, tst_ok, tst_exn, gc_ok_, gc_exn, gcM_same, asB_bl, selB_t, selB_f, selE_t, selE_f, rdV_some, stT_some, e_var, e_con, e_glo, e_nop, t_bin, t_neg, t_not, t_cmp, t_cmp2, cmp2T_t, cmp2T_f, t_and, t_or, t_if, t_idx, t_tup, t_lst, t_call, t_blt, t_mth, mthT_t, es_nil, ts_cons, b_nil, tb_cons, ts_asg, ts_expr, ts_if, ts_ret, s_rais, seqT_nx, seqT_rt, seqT_exn, seqT_bk, seqT_ct, bindT_ok, bindT_exn, outT_ok, outT_exn, tstT_ok, tstT_exn, asBT_bl, c_eqI, c_neI, c_ltI, c_leI, c_gtI, c_geI, o_addI, o_subI, n_I, abs_N, ix_tup, lift_some, at0, at1, at2, at3, asT_var, asT_tup, asTs_nil, asTs_cons, ctl_call, List.getElem?_cons_zero, List.getElem?_cons_succ, List.set_cons_zero, List.set_cons_succ, List.length_cons, List.length_nil, List.map_cons, List.map_nil, List.cons_append, List.nil_append, List.replicate_succ, List.replicate_zero, Nat.reduceAdd, Nat.reduceSub, Nat.reduceLT, Nat.reduceLeDiff, sz, Option.bind_some, Option.bind_none, Option.map_some, Bool.false_eq_true, if_true, if_false, reduceIte, Nat.zero_add, startE, Bool.not_true, Bool.not_false, decide_true, decide_false, ir_of_quotient, t1', t2', t3, t4']
end
/-! the weights that come -/
def wp : List Wt := List.replicate 6 (some (5, 4))
def wi : List Wt := none :: List.replicate 5 (some (5, 4))
def ws : List Wt := some (0, 0) :: List.replicate 5 (some (5, 4))
end Dat.K16

/-! M16 -/
set_option maxRecDepth 100000
set_option maxHeartbeats 4000000
set_option linter.all false
/-! M16: what is true of rows of six parts. -/
namespace Dat.K16
theorem list6 {a b c d e f a' b' c' d' e' f' : Rat} (h0 : a = a') (h1 : b = b') (h2 : c = c') (h3 : d = d') (h4 : e = e') (h5 : f = f') : [a, b, c, d, e, f] = [a', b', c', d', e', f'] := by
  rw [h0, h1, h2, h3, h4, h5]
theorem nI1 : nI 1 = 1 := rfl
theorem nI2 : nI 2 = 2 := rfl
theorem nI3 : nI 3 = 3 := rfl
theorem nI4 : nI 4 = 4 := rfl
theorem nI5 : nI 5 = 5 := rfl
theorem nI6 : nI 6 = 6 := rfl
section
variable {a0 a1 a2 a3 a4 a5 b0 b1 b2 b3 b4 b5 : Rat}
theorem prod6 : prodR [a0, a1, a2, a3, a4, a5] [b0, b1, b2, b3, b4, b5] = [a0 * b0, a0 * b1 + a1 * b0, a0 * b2 + a1 * b1 + a2 * b0, a0 * b3 + a1 * b2 + a2 * b1 + a3 * b0, a0 * b4 + a1 * b3 + a2 * b2 + a3 * b1 + a4 * b0, a0 * b5 + a1 * b4 + a2 * b3 + a3 * b2 + a4 * b1 + a5 * b0] := by
  show [convT _ _ 0 1, convT _ _ 1 2, convT _ _ 2 3, convT _ _ 3 4, convT _ _ 4 5, convT _ _ 5 6] = _
  simp only [convT, List.getD_cons_zero, List.getD_cons_succ, Nat.reduceSub, Nat.sub_zero, Nat.sub_self, Rat.zero_add]
theorem plus6 : plusR [a0, a1, a2, a3, a4, a5] [b0, b1, b2, b3, b4, b5] = [a0 + b0, a1 + b1, a2 + b2, a3 + b3, a4 + b4, a5 + b5] := rfl
theorem minus6 : minusR [a0, a1, a2, a3, a4, a5] [b0, b1, b2, b3, b4, b5] = [a0 - b0, a1 - b1, a2 - b2, a3 - b3, a4 - b4, a5 - b5] := rfl
theorem scaled6 {x : Rat} : scaledR [a0, a1, a2, a3, a4, a5] x = [a0 * x, a1 * x, a2 * x, a3 * x, a4 * x, a5 * x] := rfl
theorem slope6 : slopeR [a0, a1, a2, a3, a4, a5] = [a1 * 1, a2 * 2, a3 * 3, a4 * 4, a5 * 5] := rfl
theorem slopeC6 : cutR (slopeR [a0, a1, a2, a3, a4, a5]) 6 = [a1 * 1, a2 * 2, a3 * 3, a4 * 4, a5 * 5, 0] := rfl
theorem zero6 : cutR [] 6 = [0, 0, 0, 0, 0, 0] := rfl
theorem one6 : cutR [1] 6 = [1, 0, 0, 0, 0, 0] := rfl
theorem line6 : cutR [0, 1] 6 = [0, 1, 0, 0, 0, 0] := rfl
theorem minus_plus : minusR (plusR [a0, a1, a2, a3, a4, a5] [b0, b1, b2, b3, b4, b5]) [b0, b1, b2, b3, b4, b5] = [a0, a1, a2, a3, a4, a5] := by
  rw [plus6, minus6]
  exact list6 (by grind) (by grind) (by grind) (by grind) (by grind) (by grind)
theorem scaled_zero : scaledR [a0, a1, a2, a3, a4, a5] 0 = cutR [] 6 := by
  rw [scaled6, zero6]
  simp only [Rat.mul_zero]
theorem slope_sums {s : Rat} : slopeR (sumsR [a0, a1, a2, a3, a4, a5] s) = [a0, a1, a2, a3, a4, a5] := by
  show [a0 / 1 * 1, a1 / 2 * 2, a2 / 3 * 3, a3 / 4 * 4, a4 / 5 * 5, a5 / 6 * 6] = _
  exact list6 (by grind) (by grind) (by grind) (by grind) (by grind) (by grind)
theorem sums_slope : sumsR (slopeR [a0, a1, a2, a3, a4, a5]) a0 = [a0, a1, a2, a3, a4, a5] := by
  show [a0, a1 * 1 / 1, a2 * 2 / 2, a3 * 3 / 3, a4 * 4 / 4, a5 * 5 / 5] = _
  exact list6 rfl (by grind) (by grind) (by grind) (by grind) (by grind)
theorem back6 (h0 : b0 = 1 / a0) (h1 : b1 = (0 - a1 * b0) / a0) (h2 : b2 = (0 - a1 * b1 - a2 * b0) / a0) (h3 : b3 = (0 - a1 * b2 - a2 * b1 - a3 * b0) / a0) (h4 : b4 = (0 - a1 * b3 - a2 * b2 - a3 * b1 - a4 * b0) / a0) (h5 : b5 = (0 - a1 * b4 - a2 * b3 - a3 * b2 - a4 * b1 - a5 * b0) / a0) :
    backR [a0, a1, a2, a3, a4, a5] = [b0, b1, b2, b3, b4, b5] := by
  have e1 : backL [a0, a1, a2, a3, a4, a5] 1 = [b0] := by rw [h0]; rfl
  have e2 : backL [a0, a1, a2, a3, a4, a5] 2 = [b0, b1] := by
    rw [backL, e1, h1]; rfl
  have e3 : backL [a0, a1, a2, a3, a4, a5] 3 = [b0, b1, b2] := by
    rw [backL, e2, h2]; rfl
  have e4 : backL [a0, a1, a2, a3, a4, a5] 4 = [b0, b1, b2, b3] := by
    rw [backL, e3, h3]; rfl
  have e5 : backL [a0, a1, a2, a3, a4, a5] 5 = [b0, b1, b2, b3, b4] := by
    rw [backL, e4, h4]; rfl
  show backL [a0, a1, a2, a3, a4, a5] 6 = _
  rw [backL, e5, h5]; rfl
theorem back_ex (h : a0 ≠ 0) : ∃ b0 b1 b2 b3 b4 b5, backR [a0, a1, a2, a3, a4, a5] = [b0, b1, b2, b3, b4, b5] ∧ a0 * b0 = 1 ∧ a0 * b1 + a1 * b0 = 0 ∧ a0 * b2 + a1 * b1 + a2 * b0 = 0 ∧ a0 * b3 + a1 * b2 + a2 * b1 + a3 * b0 = 0 ∧ a0 * b4 + a1 * b3 + a2 * b2 + a3 * b1 + a4 * b0 = 0 ∧ a0 * b5 + a1 * b4 + a2 * b3 + a3 * b2 + a4 * b1 + a5 * b0 = 0 := by
  refine ⟨_, _, _, _, _, _, back6 rfl rfl rfl rfl rfl rfl, ?_, ?_, ?_, ?_, ?_, ?_⟩
  · grind
  · generalize 1 / a0 = b0
    grind
  · generalize 1 / a0 = b0
    generalize (0 - a1 * b0) / a0 = b1
    grind
  · generalize 1 / a0 = b0
    generalize (0 - a1 * b0) / a0 = b1
    generalize (0 - a1 * b1 - a2 * b0) / a0 = b2
    grind
  · generalize 1 / a0 = b0
    generalize (0 - a1 * b0) / a0 = b1
    generalize (0 - a1 * b1 - a2 * b0) / a0 = b2
    generalize (0 - a1 * b2 - a2 * b1 - a3 * b0) / a0 = b3
    grind
  · generalize 1 / a0 = b0
    generalize (0 - a1 * b0) / a0 = b1
    generalize (0 - a1 * b1 - a2 * b0) / a0 = b2
    generalize (0 - a1 * b2 - a2 * b1 - a3 * b0) / a0 = b3
    generalize (0 - a1 * b3 - a2 * b2 - a3 * b1 - a4 * b0) / a0 = b4
    grind
theorem prod_back (h : a0 ≠ 0) : prodR [a0, a1, a2, a3, a4, a5] (backR [a0, a1, a2, a3, a4, a5]) = cutR [1] 6 := by
  obtain ⟨b0, b1, b2, b3, b4, b5, e, h0, h1, h2, h3, h4, h5⟩ := back_ex (a1 := a1) (a2 := a2) (a3 := a3) (a4 := a4) (a5 := a5) h
  rw [e, prod6, one6, h0, h1, h2, h3, h4, h5]
theorem cut6 : cutR [a0, a1, a2, a3, a4, a5] 6 = [a0, a1, a2, a3, a4, a5] := rfl
theorem cut16 : cutR [a0] 6 = [a0, 0, 0, 0, 0, 0] := rfl
theorem quo_scaled (h : a0 ≠ 0) : quoR [a0] [a0, a1, a2, a3, a4, a5] 6 = scaledR (backR [a0, a1, a2, a3, a4, a5]) a0 := by
  obtain ⟨b0, b1, b2, b3, b4, b5, e, _⟩ := back_ex (a1 := a1) (a2 := a2) (a3 := a3) (a4 := a4) (a5 := a5) h
  unfold quoR
  rw [cut6, cut16, e, prod6, scaled6]
  exact list6 (by grind) (by grind) (by grind) (by grind) (by grind) (by grind)
theorem exp6 {x1 x2 x3 x4 x5 e1 e2 e3 e4 e5 : Rat} (h1 : e1 = (0 + 1 * x1 * 1) / 1) (h2 : e2 = (0 + 1 * x1 * e1 + 2 * x2 * 1) / 2) (h3 : e3 = (0 + 1 * x1 * e2 + 2 * x2 * e1 + 3 * x3 * 1) / 3) (h4 : e4 = (0 + 1 * x1 * e3 + 2 * x2 * e2 + 3 * x3 * e1 + 4 * x4 * 1) / 4) (h5 : e5 = (0 + 1 * x1 * e4 + 2 * x2 * e3 + 3 * x3 * e2 + 4 * x4 * e1 + 5 * x5 * 1) / 5) :
    expR [0, x1, x2, x3, x4, x5] = [1, e1, e2, e3, e4, e5] := by
  have q1 : expL [0, x1, x2, x3, x4, x5] 1 = [1, e1] := by rw [h1]; rfl
  have q2 : expL [0, x1, x2, x3, x4, x5] 2 = [1, e1, e2] := by rw [expL, q1, h2]; rfl
  have q3 : expL [0, x1, x2, x3, x4, x5] 3 = [1, e1, e2, e3] := by rw [expL, q2, h3]; rfl
  have q4 : expL [0, x1, x2, x3, x4, x5] 4 = [1, e1, e2, e3, e4] := by rw [expL, q3, h4]; rfl
  show expL [0, x1, x2, x3, x4, x5] 5 = _
  rw [expL, q4, h5]; rfl
/-- the powers as polynomials -/
theorem exp_poly {x1 x2 x3 x4 x5 : Rat} : expR [0, x1, x2, x3, x4, x5] = [1, x1, x1 * x1 / 2 + x2, x1 * x1 * x1 / 6 + x1 * x2 + x3, x1 * x1 * x1 * x1 / 24 + x1 * x1 * x2 / 2 + x1 * x3 + x2 * x2 / 2 + x4, x1 * x1 * x1 * x1 * x1 / 120 + x1 * x1 * x1 * x2 / 6 + x1 * x1 * x3 / 2 + x1 * x2 * x2 / 2 + x1 * x4 + x2 * x3 + x5] := by
  refine exp6 ?_ ?_ ?_ ?_ ?_ <;> grind
theorem log6 {s1 s2 s3 s4 s5 b1 b2 b3 b4 b5 : Rat} (e : backR [1, s1, s2, s3, s4, s5] = [1, b1, b2, b3, b4, b5]) : logR [1, s1, s2, s3, s4, s5] = [0, s1, (s1 * b1 + 2 * s2) / 2, (s1 * b2 + 2 * s2 * b1 + 3 * s3) / 3, (s1 * b3 + 2 * s2 * b2 + 3 * s3 * b1 + 4 * s4) / 4, (s1 * b4 + 2 * s2 * b3 + 3 * s3 * b2 + 4 * s4 * b1 + 5 * s5) / 5] := by
  unfold logR
  rw [e]
  show sumsR ((prodR (cutR (slopeR [1, s1, s2, s3, s4, s5]) 6) [1, b1, b2, b3, b4, b5]).take 5) 0 = _
  rw [slopeC6, prod6]
  show [0, s1 * 1 * 1 / 1, (s1 * 1 * b1 + s2 * 2 * 1) / 2, (s1 * 1 * b2 + s2 * 2 * b1 + s3 * 3 * 1) / 3, (s1 * 1 * b3 + s2 * 2 * b2 + s3 * 3 * b1 + s4 * 4 * 1) / 4, (s1 * 1 * b4 + s2 * 2 * b3 + s3 * 3 * b2 + s4 * 4 * b1 + s5 * 5 * 1) / 5] = _
  exact list6 rfl (by grind) (by grind) (by grind) (by grind) (by grind)
theorem back1 {s1 s2 s3 s4 s5 : Rat} : ∃ b1 b2 b3 b4 b5, backR [1, s1, s2, s3, s4, s5] = [1, b1, b2, b3, b4, b5] ∧ b1 = -s1 ∧ b2 = -(s1 * b1) - s2 ∧ b3 = -(s1 * b2) - s2 * b1 - s3 ∧ b4 = -(s1 * b3) - s2 * b2 - s3 * b1 - s4 ∧ b5 = -(s1 * b4) - s2 * b3 - s3 * b2 - s4 * b1 - s5 := by
  obtain ⟨b0, b1, b2, b3, b4, b5, e, h0, h1, h2, h3, h4, h5⟩ := back_ex (a0 := 1) (a1 := s1) (a2 := s2) (a3 := s3) (a4 := s4) (a5 := s5) (by decide)
  have : b0 = 1 := by grind
  subst this
  exact ⟨b1, b2, b3, b4, b5, e, by grind, by grind, by grind, by grind, by grind⟩
/-- the undoing as polynomials -/
theorem log_poly {s1 s2 s3 s4 s5 : Rat} : ∃ l1 l2 l3 l4 l5, logR [1, s1, s2, s3, s4, s5] = [0, l1, l2, l3, l4, l5] ∧ s1 = l1 ∧ 2 * s2 = 2 * l2 + l1 * s1 ∧ 3 * s3 = 3 * l3 + 2 * l2 * s1 + l1 * s2 ∧ 4 * s4 = 4 * l4 + 3 * l3 * s1 + 2 * l2 * s2 + l1 * s3 ∧ 5 * s5 = 5 * l5 + 4 * l4 * s1 + 3 * l3 * s2 + 2 * l2 * s3 + l1 * s4 := by
  obtain ⟨b1, b2, b3, b4, b5, e, h1, h2, h3, h4, h5⟩ := back1 (s1 := s1) (s2 := s2) (s3 := s3) (s4 := s4) (s5 := s5)
  refine ⟨_, _, _, _, _, log6 e, rfl, ?_, ?_, ?_, ?_⟩
  · grind
  · grind
  · grind
  · grind
theorem exp_log {s1 s2 s3 s4 s5 : Rat} : expR (logR [1, s1, s2, s3, s4, s5]) = [1, s1, s2, s3, s4, s5] := by
  obtain ⟨l1, l2, l3, l4, l5, e, h1, h2, h3, h4, h5⟩ := log_poly (s1 := s1) (s2 := s2) (s3 := s3) (s4 := s4) (s5 := s5)
  rw [e]
  refine exp6 ?_ ?_ ?_ ?_ ?_ <;> grind
theorem log_exp {x1 x2 x3 x4 x5 : Rat} : logR (expR [0, x1, x2, x3, x4, x5]) = [0, x1, x2, x3, x4, x5] := by
  obtain ⟨e1, he1⟩ : ∃ e1, e1 = (0 + 1 * x1 * 1) / 1 := ⟨_, rfl⟩
  obtain ⟨e2, he2⟩ : ∃ e2, e2 = (0 + 1 * x1 * e1 + 2 * x2 * 1) / 2 := ⟨_, rfl⟩
  obtain ⟨e3, he3⟩ : ∃ e3, e3 = (0 + 1 * x1 * e2 + 2 * x2 * e1 + 3 * x3 * 1) / 3 := ⟨_, rfl⟩
  obtain ⟨e4, he4⟩ : ∃ e4, e4 = (0 + 1 * x1 * e3 + 2 * x2 * e2 + 3 * x3 * e1 + 4 * x4 * 1) / 4 := ⟨_, rfl⟩
  obtain ⟨e5, he5⟩ : ∃ e5, e5 = (0 + 1 * x1 * e4 + 2 * x2 * e3 + 3 * x3 * e2 + 4 * x4 * e1 + 5 * x5 * 1) / 5 := ⟨_, rfl⟩
  rw [exp6 he1 he2 he3 he4 he5]
  obtain ⟨l1, l2, l3, l4, l5, e, h1, h2, h3, h4, h5⟩ := log_poly (s1 := e1) (s2 := e2) (s3 := e3) (s4 := e4) (s5 := e5)
  rw [e]
  have q1 : l1 = x1 := by grind
  subst q1
  have q2 : l2 = x2 := by grind
  subst q2
  have q3 : l3 = x3 := by grind
  subst q3
  have q4 : l4 = x4 := by grind
  subst q4
  have q5 : l5 = x5 := by grind
  subst q5
  rfl
theorem slope_exp {x1 x2 x3 x4 x5 : Rat} : slopeR (expR [0, x1, x2, x3, x4, x5]) = (prodR (cutR (slopeR [0, x1, x2, x3, x4, x5]) 6) (expR [0, x1, x2, x3, x4, x5])).take 5 := by
  obtain ⟨e1, he1⟩ : ∃ e1, e1 = (0 + 1 * x1 * 1) / 1 := ⟨_, rfl⟩
  obtain ⟨e2, he2⟩ : ∃ e2, e2 = (0 + 1 * x1 * e1 + 2 * x2 * 1) / 2 := ⟨_, rfl⟩
  obtain ⟨e3, he3⟩ : ∃ e3, e3 = (0 + 1 * x1 * e2 + 2 * x2 * e1 + 3 * x3 * 1) / 3 := ⟨_, rfl⟩
  obtain ⟨e4, he4⟩ : ∃ e4, e4 = (0 + 1 * x1 * e3 + 2 * x2 * e2 + 3 * x3 * e1 + 4 * x4 * 1) / 4 := ⟨_, rfl⟩
  obtain ⟨e5, he5⟩ : ∃ e5, e5 = (0 + 1 * x1 * e4 + 2 * x2 * e3 + 3 * x3 * e2 + 4 * x4 * e1 + 5 * x5 * 1) / 5 := ⟨_, rfl⟩
  rw [exp6 he1 he2 he3 he4 he5, slope6, slopeC6, prod6]
  show [e1 * 1, e2 * 2, e3 * 3, e4 * 4, e5 * 5] = [x1 * 1 * 1, x1 * 1 * e1 + x2 * 2 * 1, x1 * 1 * e2 + x2 * 2 * e1 + x3 * 3 * 1, x1 * 1 * e3 + x2 * 2 * e2 + x3 * 3 * e1 + x4 * 4 * 1, x1 * 1 * e4 + x2 * 2 * e3 + x3 * 3 * e2 + x4 * 4 * e1 + x5 * 5 * 1]
  have q1 : e1 * 1 = x1 * 1 * 1 := by grind
  have q2 : e2 * 2 = x1 * 1 * e1 + x2 * 2 * 1 := by grind
  have q3 : e3 * 3 = x1 * 1 * e2 + x2 * 2 * e1 + x3 * 3 * 1 := by grind
  have q4 : e4 * 4 = x1 * 1 * e3 + x2 * 2 * e2 + x3 * 3 * e1 + x4 * 4 * 1 := by grind
  have q5 : e5 * 5 = x1 * 1 * e4 + x2 * 2 * e3 + x3 * 3 * e2 + x4 * 4 * e1 + x5 * 5 * 1 := by grind
  rw [q1, q2, q3, q4, q5]
theorem pow_add {s1 s2 s3 s4 s5 x y : Rat} : prodR (powR [1, s1, s2, s3, s4, s5] x) (powR [1, s1, s2, s3, s4, s5] y) = powR [1, s1, s2, s3, s4, s5] (x + y) := by
  obtain ⟨l1, l2, l3, l4, l5, e, _⟩ := log_poly (s1 := s1) (s2 := s2) (s3 := s3) (s4 := s4) (s5 := s5)
  unfold powR
  rw [e, scaled6, scaled6, scaled6, Rat.zero_mul, Rat.zero_mul, Rat.zero_mul, exp_poly, exp_poly, exp_poly, prod6]
  exact list6 (by grind) (by grind) (by grind) (by grind) (by grind) (by grind)
theorem pow_one {s1 s2 s3 s4 s5 : Rat} : powR [1, s1, s2, s3, s4, s5] 1 = [1, s1, s2, s3, s4, s5] := by
  obtain ⟨l1, l2, l3, l4, l5, e, _⟩ := log_poly (s1 := s1) (s2 := s2) (s3 := s3) (s4 := s4) (s5 := s5)
  have h := exp_log (s1 := s1) (s2 := s2) (s3 := s3) (s4 := s4) (s5 := s5)
  unfold powR
  rw [e] at h ⊢
  rw [scaled6]
  simp only [Rat.mul_one]
  exact h
theorem root_root {s1 s2 s3 s4 s5 : Rat} : prodR (powR [1, s1, s2, s3, s4, s5] (1 / 2)) (powR [1, s1, s2, s3, s4, s5] (1 / 2)) = [1, s1, s2, s3, s4, s5] := by
  rw [pow_add, show (1 / 2 + 1 / 2 : Rat) = 1 by decide +kernel, pow_one]
theorem pow_two {s1 s2 s3 s4 s5 : Rat} : powR [1, s1, s2, s3, s4, s5] 2 = prodR [1, s1, s2, s3, s4, s5] [1, s1, s2, s3, s4, s5] := by
  have h := pow_add (s1 := s1) (s2 := s2) (s3 := s3) (s4 := s4) (s5 := s5) (x := 1) (y := 1)
  rw [pow_one, show (1 + 1 : Rat) = 2 by decide +kernel] at h
  exact h.symm
end
end Dat.K16

/-! N16 -/
set_option maxRecDepth 100000
set_option maxHeartbeats 4000000
set_option linter.all false
/-! N16: rows put into rows. -/
namespace Dat.K16
section
variable {f0 f1 f2 f3 f4 f5 t0 t1 t2 t3 t4 t5 : Rat}
theorem putS6 {x : Rat} : putStep [f0, f1, f2, f3, f4, f5] [0, t1, t2, t3, t4, t5] x = [x, f0 * t1, f0 * t2 + f1 * t1, f0 * t3 + f1 * t2 + f2 * t1, f0 * t4 + f1 * t3 + f2 * t2 + f3 * t1, f0 * t5 + f1 * t4 + f2 * t3 + f3 * t2 + f4 * t1] := by
  unfold putStep
  rw [prod6]
  show [f0 * 0 + x, _, _, _, _, _] = _
  exact list6 (by grind) (by grind) (by grind) (by grind) (by grind) (by grind)
theorem put6 : putR [f0, f1, f2, f3, f4, f5] [0, t1, t2, t3, t4, t5] = [f0, f1 * t1, f1 * t2 + f2 * t1 * t1, f1 * t3 + 2 * f2 * t1 * t2 + f3 * t1 * t1 * t1, f1 * t4 + f2 * (2 * t1 * t3 + t2 * t2) + 3 * f3 * t1 * t1 * t2 + f4 * t1 * t1 * t1 * t1,
    f1 * t5 + f2 * (2 * t1 * t4 + 2 * t2 * t3) + f3 * (3 * t1 * t1 * t3 + 3 * t1 * t2 * t2) + 4 * f4 * t1 * t1 * t1 * t2 + f5 * t1 * t1 * t1 * t1 * t1] := by
  show putStep (putStep (putStep (putStep (putStep (putStep [0, 0, 0, 0, 0, 0] [0, t1, t2, t3, t4, t5] f5) [0, t1, t2, t3, t4, t5] f4) [0, t1, t2, t3, t4, t5] f3) [0, t1, t2, t3, t4, t5] f2) [0, t1, t2, t3, t4, t5] f1) [0, t1, t2, t3, t4, t5] f0 = _
  rw [putS6, putS6, putS6, putS6, putS6, putS6]
  exact list6 rfl (by grind) (by grind) (by grind) (by grind) (by grind)
/-! shorter rows -/
theorem prod3 {a0 a1 a2 b0 b1 b2 : Rat} : prodR [a0, a1, a2] [b0, b1, b2] = [a0 * b0, a0 * b1 + a1 * b0, a0 * b2 + a1 * b1 + a2 * b0] := by
  show [convT _ _ 0 1, convT _ _ 1 2, convT _ _ 2 3] = _
  simp only [convT, List.getD_cons_zero, List.getD_cons_succ, Nat.reduceSub, Nat.sub_zero, Nat.sub_self, Rat.zero_add]
theorem prod4 {a0 a1 a2 a3 b0 b1 b2 b3 : Rat} : prodR [a0, a1, a2, a3] [b0, b1, b2, b3] = [a0 * b0, a0 * b1 + a1 * b0, a0 * b2 + a1 * b1 + a2 * b0, a0 * b3 + a1 * b2 + a2 * b1 + a3 * b0] := by
  show [convT _ _ 0 1, convT _ _ 1 2, convT _ _ 2 3, convT _ _ 3 4] = _
  simp only [convT, List.getD_cons_zero, List.getD_cons_succ, Nat.reduceSub, Nat.sub_zero, Nat.sub_self, Rat.zero_add]
theorem prod5 {a0 a1 a2 a3 a4 b0 b1 b2 b3 b4 : Rat} : prodR [a0, a1, a2, a3, a4] [b0, b1, b2, b3, b4] = [a0 * b0, a0 * b1 + a1 * b0, a0 * b2 + a1 * b1 + a2 * b0, a0 * b3 + a1 * b2 + a2 * b1 + a3 * b0, a0 * b4 + a1 * b3 + a2 * b2 + a3 * b1 + a4 * b0] := by
  show [convT _ _ 0 1, convT _ _ 1 2, convT _ _ 2 3, convT _ _ 3 4, convT _ _ 4 5] = _
  simp only [convT, List.getD_cons_zero, List.getD_cons_succ, Nat.reduceSub, Nat.sub_zero, Nat.sub_self, Rat.zero_add]
theorem putS3 {x : Rat} : putStep [f0, f1, f2] [0, t1, t2] x = [x, f0 * t1, f0 * t2 + f1 * t1] := by
  unfold putStep
  rw [prod3]
  show [f0 * 0 + x, f0 * t1 + f1 * 0, f0 * t2 + f1 * t1 + f2 * 0] = _
  rw [Rat.mul_zero, Rat.mul_zero, Rat.mul_zero, Rat.zero_add, Rat.add_zero, Rat.add_zero]
theorem putS4 {x : Rat} : putStep [f0, f1, f2, f3] [0, t1, t2, t3] x = [x, f0 * t1, f0 * t2 + f1 * t1, f0 * t3 + f1 * t2 + f2 * t1] := by
  unfold putStep
  rw [prod4]
  show [f0 * 0 + x, f0 * t1 + f1 * 0, f0 * t2 + f1 * t1 + f2 * 0, f0 * t3 + f1 * t2 + f2 * t1 + f3 * 0] = _
  rw [Rat.mul_zero, Rat.mul_zero, Rat.mul_zero, Rat.mul_zero, Rat.zero_add, Rat.add_zero, Rat.add_zero, Rat.add_zero]
theorem putS5 {x : Rat} : putStep [f0, f1, f2, f3, f4] [0, t1, t2, t3, t4] x = [x, f0 * t1, f0 * t2 + f1 * t1, f0 * t3 + f1 * t2 + f2 * t1, f0 * t4 + f1 * t3 + f2 * t2 + f3 * t1] := by
  unfold putStep
  rw [prod5]
  show [f0 * 0 + x, f0 * t1 + f1 * 0, f0 * t2 + f1 * t1 + f2 * 0, f0 * t3 + f1 * t2 + f2 * t1 + f3 * 0, f0 * t4 + f1 * t3 + f2 * t2 + f3 * t1 + f4 * 0] = _
  rw [Rat.mul_zero, Rat.mul_zero, Rat.mul_zero, Rat.mul_zero, Rat.mul_zero, Rat.zero_add, Rat.add_zero, Rat.add_zero, Rat.add_zero, Rat.add_zero]
theorem put3 : (putR [0, f1, f2] [0, t1, t2]).getD 2 0 = f1 * t2 + f2 * t1 * t1 := by
  show (putStep (putStep (putStep [0, 0, 0] [0, t1, t2] f2) [0, t1, t2] f1) [0, t1, t2] 0).getD 2 0 = _
  rw [putS3, putS3, putS3]
  show f1 * t2 + f2 * t1 * t1 = _
  rfl
theorem put4 : (putR [0, f1, f2, f3] [0, t1, t2, t3]).getD 3 0 = f1 * t3 + 2 * f2 * t1 * t2 + f3 * t1 * t1 * t1 := by
  show (putStep (putStep (putStep (putStep [0, 0, 0, 0] [0, t1, t2, t3] f3) [0, t1, t2, t3] f2) [0, t1, t2, t3] f1) [0, t1, t2, t3] 0).getD 3 0 = _
  rw [putS4, putS4, putS4, putS4]
  show f1 * t3 + f2 * t1 * t2 + (f2 * t2 + f3 * t1 * t1) * t1 = _
  grind
theorem put5 : (putR [0, f1, f2, f3, f4] [0, t1, t2, t3, t4]).getD 4 0 = f1 * t4 + f2 * (2 * t1 * t3 + t2 * t2) + 3 * f3 * t1 * t1 * t2 + f4 * t1 * t1 * t1 * t1 := by
  show (putStep (putStep (putStep (putStep (putStep [0, 0, 0, 0, 0] [0, t1, t2, t3, t4] f4) [0, t1, t2, t3, t4] f3) [0, t1, t2, t3, t4] f2) [0, t1, t2, t3, t4] f1) [0, t1, t2, t3, t4] 0).getD 4 0 = _
  rw [putS5, putS5, putS5, putS5, putS5]
  show f1 * t4 + f2 * t1 * t3 + (f2 * t2 + f3 * t1 * t1) * t2 + (f2 * t3 + f3 * t1 * t2 + (f3 * t2 + f4 * t1 * t1) * t1) * t1 = _
  grind
theorem put6l : (putR [0, f1, f2, f3, f4, f5] [0, t1, t2, t3, t4, t5]).getD 5 0 = f1 * t5 + f2 * (2 * t1 * t4 + 2 * t2 * t3) + f3 * (3 * t1 * t1 * t3 + 3 * t1 * t2 * t2) + 4 * f4 * t1 * t1 * t1 * t2 + f5 * t1 * t1 * t1 * t1 * t1 := by
  rw [put6]
  rfl
/-- turned back -/
theorem turned6 (h1 : t1 = 1 / f1) (h2 : t2 = -(f1 * 0 + f2 * t1 * t1) / f1) (h3 : t3 = -(f1 * 0 + 2 * f2 * t1 * t2 + f3 * t1 * t1 * t1) / f1) (h4 : t4 = -(f1 * 0 + f2 * (2 * t1 * t3 + t2 * t2) + 3 * f3 * t1 * t1 * t2 + f4 * t1 * t1 * t1 * t1) / f1)
    (h5 : t5 = -(f1 * 0 + f2 * (2 * t1 * t4 + 2 * t2 * t3) + f3 * (3 * t1 * t1 * t3 + 3 * t1 * t2 * t2) + 4 * f4 * t1 * t1 * t1 * t2 + f5 * t1 * t1 * t1 * t1 * t1) / f1) : turnedR [0, f1, f2, f3, f4, f5] = [0, t1, t2, t3, t4, t5] := by
  have e0 : turnedL [0, f1, f2, f3, f4, f5] 0 = [0, t1] := by rw [h1]; rfl
  have e1 : turnedL [0, f1, f2, f3, f4, f5] 1 = [0, t1, t2] := by
    rw [turnedL, e0]
    show [0, t1, -((putR [0, f1, f2] [0, t1, 0]).getD 2 0) / f1] = _
    rw [put3, ← h2]
  have e2 : turnedL [0, f1, f2, f3, f4, f5] 2 = [0, t1, t2, t3] := by
    rw [turnedL, e1]
    show [0, t1, t2, -((putR [0, f1, f2, f3] [0, t1, t2, 0]).getD 3 0) / f1] = _
    rw [put4, ← h3]
  have e3 : turnedL [0, f1, f2, f3, f4, f5] 3 = [0, t1, t2, t3, t4] := by
    rw [turnedL, e2]
    show [0, t1, t2, t3, -((putR [0, f1, f2, f3, f4] [0, t1, t2, t3, 0]).getD 4 0) / f1] = _
    rw [put5, ← h4]
  show turnedL [0, f1, f2, f3, f4, f5] 4 = _
  rw [turnedL, e3]
  show [0, t1, t2, t3, t4, -((putR [0, f1, f2, f3, f4, f5] [0, t1, t2, t3, t4, 0]).getD 5 0) / f1] = _
  rw [put6l, ← h5]
theorem turned_ex (h : f1 ≠ 0) : ∃ t1 t2 t3 t4 t5, turnedR [0, f1, f2, f3, f4, f5] = [0, t1, t2, t3, t4, t5] ∧ f1 * t1 = 1 ∧ f1 * t2 + f2 * t1 * t1 = 0 ∧ f1 * t3 + 2 * f2 * t1 * t2 + f3 * t1 * t1 * t1 = 0 ∧ f1 * t4 + f2 * (2 * t1 * t3 + t2 * t2) + 3 * f3 * t1 * t1 * t2 + f4 * t1 * t1 * t1 * t1 = 0 ∧
    f1 * t5 + f2 * (2 * t1 * t4 + 2 * t2 * t3) + f3 * (3 * t1 * t1 * t3 + 3 * t1 * t2 * t2) + 4 * f4 * t1 * t1 * t1 * t2 + f5 * t1 * t1 * t1 * t1 * t1 = 0 := by
  have md : ∀ t y : Rat, t = -y / f1 → f1 * t = -y := fun t y e => by rw [e]; grind
  obtain ⟨t1, h1⟩ : ∃ t1, t1 = 1 / f1 := ⟨_, rfl⟩
  obtain ⟨t2, h2⟩ : ∃ t2, t2 = -(f1 * 0 + f2 * t1 * t1) / f1 := ⟨_, rfl⟩
  obtain ⟨t3, h3⟩ : ∃ t3, t3 = -(f1 * 0 + 2 * f2 * t1 * t2 + f3 * t1 * t1 * t1) / f1 := ⟨_, rfl⟩
  obtain ⟨t4, h4⟩ : ∃ t4, t4 = -(f1 * 0 + f2 * (2 * t1 * t3 + t2 * t2) + 3 * f3 * t1 * t1 * t2 + f4 * t1 * t1 * t1 * t1) / f1 := ⟨_, rfl⟩
  obtain ⟨t5, h5⟩ : ∃ t5, t5 = -(f1 * 0 + f2 * (2 * t1 * t4 + 2 * t2 * t3) + f3 * (3 * t1 * t1 * t3 + 3 * t1 * t2 * t2) + 4 * f4 * t1 * t1 * t1 * t2 + f5 * t1 * t1 * t1 * t1 * t1) / f1 := ⟨_, rfl⟩
  refine ⟨t1, t2, t3, t4, t5, turned6 h1 h2 h3 h4 h5, ?_, ?_, ?_, ?_, ?_⟩
  · rw [h1]; grind
  · rw [md _ _ h2]; grind
  · rw [md _ _ h3]; grind
  · rw [md _ _ h4]; grind
  · rw [md _ _ h5]; grind
theorem put_turned (h : f1 ≠ 0) : putR [0, f1, f2, f3, f4, f5] (turnedR [0, f1, f2, f3, f4, f5]) = cutR [0, 1] 6 := by
  obtain ⟨t1, t2, t3, t4, t5, e, h1, h2, h3, h4, h5⟩ := turned_ex (f2 := f2) (f3 := f3) (f4 := f4) (f5 := f5) h
  rw [e, put6, line6, h1, h2, h3, h4, h5]
theorem turned_put (h : f1 ≠ 0) : putR (turnedR [0, f1, f2, f3, f4, f5]) [0, f1, f2, f3, f4, f5] = cutR [0, 1] 6 := by
  obtain ⟨t1, t2, t3, t4, t5, e, h1, h2, h3, h4, h5⟩ := turned_ex (f2 := f2) (f3 := f3) (f4 := f4) (f5 := f5) h
  have sol : ∀ t y : Rat, f1 * t + y = 0 → t = -(t1 * y) := fun t y z => by
    have z1 : y = -(f1 * t) := by grind
    have z2 : t1 * y = -(f1 * t1 * t) := by rw [z1]; grind
    rw [z2, h1]
    grind
  have q2 : t2 = -f2 * t1 * t1 * t1 := by
    rw [sol t2 (f2 * t1 * t1) (by grind)]
    grind
  have q3 : t3 = 2 * f2 * f2 * t1 * t1 * t1 * t1 * t1 - f3 * t1 * t1 * t1 * t1 := by
    rw [sol t3 (2 * f2 * t1 * t2 + f3 * t1 * t1 * t1) (by grind), q2]
    clear h1 h2 h3 h4 h5 q2 e h sol
    grind
  have q4 : t4 = -5 * f2 * f2 * f2 * t1 * t1 * t1 * t1 * t1 * t1 * t1 + 5 * f2 * f3 * t1 * t1 * t1 * t1 * t1 * t1 - f4 * t1 * t1 * t1 * t1 * t1 := by
    rw [sol t4 (f2 * (2 * t1 * t3 + t2 * t2) + 3 * f3 * t1 * t1 * t2 + f4 * t1 * t1 * t1 * t1) (by grind), q3, q2]
    clear h1 h2 h3 h4 h5 q2 q3 e h sol
    grind
  have q5 : t5 = 14 * f2 * f2 * f2 * f2 * t1 * t1 * t1 * t1 * t1 * t1 * t1 * t1 * t1 - 21 * f2 * f2 * f3 * t1 * t1 * t1 * t1 * t1 * t1 * t1 * t1 + 3 * f3 * f3 * t1 * t1 * t1 * t1 * t1 * t1 * t1 + 6 * f2 * f4 * t1 * t1 * t1 * t1 * t1 * t1 * t1 - f5 * t1 * t1 * t1 * t1 * t1 * t1 := by
    rw [sol t5 (f2 * (2 * t1 * t4 + 2 * t2 * t3) + f3 * (3 * t1 * t1 * t3 + 3 * t1 * t2 * t2) + 4 * f4 * t1 * t1 * t1 * t2 + f5 * t1 * t1 * t1 * t1 * t1) (by grind), q4, q3, q2]
    clear h1 h2 h3 h4 h5 q2 q3 q4 e h sol
    grind
  rw [e, put6, line6]
  clear h3 h4 h5 h2 e sol h
  rw [q5, q4, q3, q2]
  clear q2 q3 q4 q5
  refine list6 rfl ?_ ?_ ?_ ?_ ?_
  · grind
  · grind
  · grind
  · grind
  · grind
/-! sums of powers -/
def totN (p q : List Rat) : Nat → List Rat × List Rat
  | 0 => (cutR [] 6, cutR [1] 6)
  | k + 1 => (plusR (totN p q k).1 (scaledR (totN p q k).2 (p.getD k 0)), prodR (totN p q k).2 q)
theorem put_total : putR [f0, f1, f2, f3, f4, f5] [0, t1, t2, t3, t4, t5] = (totN [f0, f1, f2, f3, f4, f5] [0, t1, t2, t3, t4, t5] 6).1 := by
  have pw : ∀ {a0 a1 a2 a3 a4 a5 : Rat}, prodR [a0, a1, a2, a3, a4, a5] [0, t1, t2, t3, t4, t5] = [0, a0 * t1, a0 * t2 + a1 * t1, a0 * t3 + a1 * t2 + a2 * t1, a0 * t4 + a1 * t3 + a2 * t2 + a3 * t1, a0 * t5 + a1 * t4 + a2 * t3 + a3 * t2 + a4 * t1] := by
    intro a0 a1 a2 a3 a4 a5
    rw [prod6]
    exact list6 (by grind) (by grind) (by grind) (by grind) (by grind) (by grind)
  have k1 : totN [f0, f1, f2, f3, f4, f5] [0, t1, t2, t3, t4, t5] 1 = ([f0, 0, 0, 0, 0, 0], [0, t1, t2, t3, t4, t5]) := by
    show (plusR [0, 0, 0, 0, 0, 0] (scaledR [1, 0, 0, 0, 0, 0] f0), prodR [1, 0, 0, 0, 0, 0] [0, t1, t2, t3, t4, t5]) = _
    rw [scaled6, plus6, pw]
    congr 1
    · exact list6 (by grind) (by grind) (by grind) (by grind) (by grind) (by grind)
    · exact list6 (by grind) (by grind) (by grind) (by grind) (by grind) (by grind)
  have k2 : totN [f0, f1, f2, f3, f4, f5] [0, t1, t2, t3, t4, t5] 2 = ([f0, f1 * t1, f1 * t2, f1 * t3, f1 * t4, f1 * t5], [0, 0, t1 * t1, 2 * t1 * t2, 2 * t1 * t3 + t2 * t2, 2 * t1 * t4 + 2 * t2 * t3]) := by
    rw [totN, k1]
    show (plusR [f0, 0, 0, 0, 0, 0] (scaledR [0, t1, t2, t3, t4, t5] f1), prodR [0, t1, t2, t3, t4, t5] [0, t1, t2, t3, t4, t5]) = _
    rw [scaled6, plus6, pw]
    congr 1
    · exact list6 (by grind) (by grind) (by grind) (by grind) (by grind) (by grind)
    · exact list6 (by grind) (by grind) (by grind) (by grind) (by grind) (by grind)
  have k3 : totN [f0, f1, f2, f3, f4, f5] [0, t1, t2, t3, t4, t5] 3 = ([f0, f1 * t1, f1 * t2 + f2 * t1 * t1, f1 * t3 + 2 * f2 * t1 * t2, f1 * t4 + f2 * (2 * t1 * t3 + t2 * t2), f1 * t5 + f2 * (2 * t1 * t4 + 2 * t2 * t3)], [0, 0, 0, t1 * t1 * t1, 3 * t1 * t1 * t2, 3 * t1 * t1 * t3 + 3 * t1 * t2 * t2]) := by
    rw [totN, k2]
    show (plusR [f0, f1 * t1, f1 * t2, f1 * t3, f1 * t4, f1 * t5] (scaledR [0, 0, t1 * t1, 2 * t1 * t2, 2 * t1 * t3 + t2 * t2, 2 * t1 * t4 + 2 * t2 * t3] f2), prodR [0, 0, t1 * t1, 2 * t1 * t2, 2 * t1 * t3 + t2 * t2, 2 * t1 * t4 + 2 * t2 * t3] [0, t1, t2, t3, t4, t5]) = _
    rw [scaled6, plus6, pw]
    congr 1
    · exact list6 (by grind) (by grind) (by grind) (by grind) (by grind) (by grind)
    · exact list6 (by grind) (by grind) (by grind) (by grind) (by grind) (by grind)
  have k4 : totN [f0, f1, f2, f3, f4, f5] [0, t1, t2, t3, t4, t5] 4 = ([f0, f1 * t1, f1 * t2 + f2 * t1 * t1, f1 * t3 + 2 * f2 * t1 * t2 + f3 * t1 * t1 * t1, f1 * t4 + f2 * (2 * t1 * t3 + t2 * t2) + 3 * f3 * t1 * t1 * t2, f1 * t5 + f2 * (2 * t1 * t4 + 2 * t2 * t3) + f3 * (3 * t1 * t1 * t3 + 3 * t1 * t2 * t2)], [0, 0, 0, 0, t1 * t1 * t1 * t1, 4 * t1 * t1 * t1 * t2]) := by
    rw [totN, k3]
    show (plusR [f0, f1 * t1, f1 * t2 + f2 * t1 * t1, f1 * t3 + 2 * f2 * t1 * t2, f1 * t4 + f2 * (2 * t1 * t3 + t2 * t2), f1 * t5 + f2 * (2 * t1 * t4 + 2 * t2 * t3)] (scaledR [0, 0, 0, t1 * t1 * t1, 3 * t1 * t1 * t2, 3 * t1 * t1 * t3 + 3 * t1 * t2 * t2] f3), prodR [0, 0, 0, t1 * t1 * t1, 3 * t1 * t1 * t2, 3 * t1 * t1 * t3 + 3 * t1 * t2 * t2] [0, t1, t2, t3, t4, t5]) = _
    rw [scaled6, plus6, pw]
    congr 1
    · exact list6 (by grind) (by grind) (by grind) (by grind) (by grind) (by grind)
    · exact list6 (by grind) (by grind) (by grind) (by grind) (by grind) (by grind)
  have k5 : totN [f0, f1, f2, f3, f4, f5] [0, t1, t2, t3, t4, t5] 5 = ([f0, f1 * t1, f1 * t2 + f2 * t1 * t1, f1 * t3 + 2 * f2 * t1 * t2 + f3 * t1 * t1 * t1, f1 * t4 + f2 * (2 * t1 * t3 + t2 * t2) + 3 * f3 * t1 * t1 * t2 + f4 * t1 * t1 * t1 * t1, f1 * t5 + f2 * (2 * t1 * t4 + 2 * t2 * t3) + f3 * (3 * t1 * t1 * t3 + 3 * t1 * t2 * t2) + 4 * f4 * t1 * t1 * t1 * t2], [0, 0, 0, 0, 0, t1 * t1 * t1 * t1 * t1]) := by
    rw [totN, k4]
    show (plusR [f0, f1 * t1, f1 * t2 + f2 * t1 * t1, f1 * t3 + 2 * f2 * t1 * t2 + f3 * t1 * t1 * t1, f1 * t4 + f2 * (2 * t1 * t3 + t2 * t2) + 3 * f3 * t1 * t1 * t2, f1 * t5 + f2 * (2 * t1 * t4 + 2 * t2 * t3) + f3 * (3 * t1 * t1 * t3 + 3 * t1 * t2 * t2)] (scaledR [0, 0, 0, 0, t1 * t1 * t1 * t1, 4 * t1 * t1 * t1 * t2] f4), prodR [0, 0, 0, 0, t1 * t1 * t1 * t1, 4 * t1 * t1 * t1 * t2] [0, t1, t2, t3, t4, t5]) = _
    rw [scaled6, plus6, pw]
    congr 1
    · exact list6 (by grind) (by grind) (by grind) (by grind) (by grind) (by grind)
    · exact list6 (by grind) (by grind) (by grind) (by grind) (by grind) (by grind)
  rw [totN, k5, put6]
  show _ = plusR [f0, f1 * t1, f1 * t2 + f2 * t1 * t1, f1 * t3 + 2 * f2 * t1 * t2 + f3 * t1 * t1 * t1, f1 * t4 + f2 * (2 * t1 * t3 + t2 * t2) + 3 * f3 * t1 * t1 * t2 + f4 * t1 * t1 * t1 * t1, f1 * t5 + f2 * (2 * t1 * t4 + 2 * t2 * t3) + f3 * (3 * t1 * t1 * t3 + 3 * t1 * t2 * t2) + 4 * f4 * t1 * t1 * t1 * t2] (scaledR [0, 0, 0, 0, 0, t1 * t1 * t1 * t1 * t1] f5)
  rw [scaled6, plus6]
  exact list6 (by grind) (by grind) (by grind) (by grind) (by grind) (by grind)
end
end Dat.K16

/-! Dat27 -/
set_option linter.all false
set_option maxRecDepth 100000
set_option maxHeartbeats 4000000
/-! Dat27: the dice at its place; a law's body that leaves lists behind; what is drawn. -/
namespace Dat
open PySem L2
/-- the dice at its place, t rolls on -/
def At (E i t : Nat) (m m' : Mem) : Prop := i < m.length ∧ ∃ a b c, m' = m.set i (.lst [.int a, .int b, .int c]) ∧ DOk E t a b
theorem At.len {E i t : Nat} {m m' : Mem} (h : At E i t m m') : m'.length = m.length := by
  obtain ⟨_, a, b, c, rfl, _⟩ := h
  rw [List.length_set]
theorem At.clo {E i t : Nat} {m m' : Mem} (h : At E i t m m') (hc : Clo m) : Clo m' := by
  obtain ⟨_, a, b, c, rfl, _⟩ := h
  exact hc.set
theorem At.ne {E i t : Nat} {m m' : Mem} (h : At E i t m m') {j : Nat} (hj : i ≠ j) : m'[j]? = m[j]? := by
  obtain ⟨_, a, b, c, rfl, _⟩ := h
  rw [List.getElem?_set_ne hj]
theorem At.start {E i : Nat} {m : Mem} {a b z : Int} (hg : m[i]? = some (.lst [.int a, .int b, .int z])) (hd : DOk E 0 a b) : At E i 0 m m := by
  have hi := (List.getElem?_eq_some_iff.mp hg).1
  refine ⟨hi, a, b, z, ?_, hd⟩
  apply List.ext_getElem?
  intro j
  by_cases hj : i = j
  · subst hj
    rw [List.getElem?_set_self hi, hg]
  · rw [List.getElem?_set_ne hj]
theorem roll_at {P : Prog} {f : Nat} (hf : P.fns[f]? = some ⟨2, 3, irRoll⟩) {n E i t : Nat} {m m1 : Mem} (hE : 31 ≤ E) (hE2 : E ≤ 134217700) (h : At E i t m m1) (ht : t < 1000000) {many : Int} (h0 : 0 < many) (h1 : many < 1000) (ext : Mem) :
    ∃ r m2, 0 ≤ r ∧ r < many ∧ At E i (t + 1) m m2 ∧ runF P (n + 1) f [.ref i, .int many] (m1 ++ ext) = .ok (.int r) (m2 ++ ext) := by
  obtain ⟨hi, a, b, c, rfl, hd⟩ := h
  have hg : (m.set i (.lst [.int a, .int b, .int c]) ++ ext)[i]? = some (.lst [.int a, .int b, .int c]) := by
    rw [List.getElem?_append_left (by rw [List.length_set]; exact hi), List.getElem?_set_self hi]
  obtain ⟨r, a', b', c', r1, r2, r3, r4⟩ := roll_ok (n := n) hf hE hE2 hg hd (by omega) h0 (by omega)
  refine ⟨r, m.set i (.lst [.int a', .int b', .int c']), r1, r2, ⟨hi, a', b', c', rfl, r3⟩, ?_⟩
  rw [r4, List.set_append_left _ _ (by rw [List.length_set]; exact hi), List.set_set]
def irPart (iG iR : Nat) : List IS := [(.asg (.tup [(.var 1), (.var 2)]) (.tup [(.bin .Sub (.call iR [(.var 0), (.con (.int 61))]) (.con (.int 30))), (.bin .Add (.con (.int 1)) (.call iR [(.var 0), (.con (.int 12))]))])), (.asg (.var 3) (.call iG [(.var 1), (.var 2)])), (.ret (.tup [(.bin .FloorDiv (.var 1) (.var 3)), (.bin .FloorDiv (.var 2) (.var 3))]))]
/-- a part is drawn -/
theorem part_at {P : Prog} {f iG iR : Nat} (hf : P.fns[f]? = some ⟨1, 4, irPart iG iR⟩) (hG : P.fns[iG]? = some ⟨2, 2, irShared⟩) (hR : P.fns[iR]? = some ⟨2, 3, irRoll⟩) (htn : P.turns = 2 ^ 4096) {n E i t : Nat} {m m1 : Mem} (hE : 31 ≤ E) (hE2 : E ≤ 134217700) (h : At E i t m m1) (ht : t < 1000000 - 1) (ext : Mem) :
    ∃ q m2, HW (some (5, 4)) q ∧ At E i (t + 2) m m2 ∧ runF P (n + 2) f [.ref i] (m1 ++ ext) = .ok (encQ q) (m2 ++ ext) := by
  obtain ⟨r, m2, r1, r2, r3, r4⟩ := roll_at (n := n) hR hE hE2 h (by omega) (many := 61) (by decide) (by decide) ext
  obtain ⟨s, m3, s1, s2, s3, s4⟩ := roll_at (n := n) hR hE hE2 r3 (by omega) (many := 12) (by decide) (by decide) ext
  have len1 : m1.length = m.length := h.len
  have len3 : m3.length = m.length := s3.len
  have g : ∀ a : D, gcM (m1 ++ ext).length a (m3 ++ ext) = m3 ++ ext := fun a => by
    rw [show (m1 ++ ext).length = (m3 ++ ext).length by simp [len1, len3], gcM_same]
  have hb : (1 + s : Int) ≠ 0 := by omega
  refine ⟨Rat.divInt (r - 30) (1 + s), m3, hw_div hb (by omega) (by omega), s3, ?_⟩
  rw [runF_at hf rfl]
  have t1 := shared_any (n := n) (m := m3 ++ ext) (a := r - 30) (b := 1 + s) (N := 8) hG htn (by omega) (by omega) (by decide)
  have gl : Int.gcd (r - 30) (1 + s) < 2 ^ 8 := Nat.lt_of_le_of_lt (Int.gcd_le_natAbs_right _ hb) (by omega)
  have g0 : Int.gcd (r - 30) (1 + s) ≠ 0 := fun z => hb (Int.gcd_eq_zero_iff.mp z).2
  have gD : ∀ x : Int, DivG x (Int.gcd (r - 30) (1 + s) : Int) := fun x => divG_64 (by omega) (by
    rw [Int.natAbs_natCast]
    exact Nat.lt_of_lt_of_le gl (by decide))
  have fin : D.tup [.int ((r - 30).fdiv (Int.gcd (r - 30) (1 + s))), .int ((1 + s).fdiv (Int.gcd (r - 30) (1 + s)))] = encQ (Rat.divInt (r - 30) (1 + s)) := by
    have gp : (0 : Int) ≤ (Int.gcd (r - 30) (1 + s) : Int) := Int.natCast_nonneg _
    unfold encQ
    rw [Rat.num_divInt, Rat.den_divInt, if_neg hb, Int.fdiv_eq_ediv_of_nonneg _ gp, Int.fdiv_eq_ediv_of_nonneg _ gp, Int.gcd_comm (1 + s) (r - 30), Int.sign_eq_one_of_pos (by omega), Int.one_mul]
    congr 3
    rw [Int.natCast_ediv]
    have : (((1 + s).natAbs : Nat) : Int) = 1 + s := by omega
    rw [this]
  have d1 := gD (r - 30)
  have d2 := gD (1 + s)
  rw [← fin]
  generalize (Int.gcd (r - 30) (1 + s) : Int) = G at *
  simp only [fin_rt, fin_nx, fin_exn, seq_nx, seq_rt, seq_exn, seq_bk, seq_ct, bind_ok, bind_exn, out_ok, out_exn, tst_ok, tst_exn, gc_ok_, gc_exn, gcM_same, asB_bl, selB_t, selB_f, selE_t, selE_f, rdV_some, stT_some, e_var, e_con, e_glo, e_nop, t_bin, t_neg, t_not, t_cmp, t_cmp2, cmp2T_t, cmp2T_f, t_and, t_or, t_if, t_idx, t_tup, t_lst, t_call, t_blt, t_mth, mthT_t, es_nil, ts_cons, b_nil, tb_cons, ts_asg, ts_expr, ts_if, ts_ret, s_rais, seqT_nx, seqT_rt, seqT_exn, seqT_bk, seqT_ct, bindT_ok, bindT_exn, outT_ok, outT_exn, tstT_ok, tstT_exn, asBT_bl, c_eqI, c_neI, c_ltI, c_leI, c_gtI, c_geI, o_addI, o_subI, n_I, abs_N, ix_tup, lift_some, at0, at1, at2, at3, asT_var, asT_tup, asTs_nil, asTs_cons, ctl_call, List.getElem?_cons_zero, List.getElem?_cons_succ, List.set_cons_zero, List.set_cons_succ, List.length_cons, List.length_nil, List.map_cons, List.map_nil, List.cons_append, List.nil_append, List.replicate_succ, List.replicate_zero, Nat.reduceAdd, Nat.reduceSub, Nat.reduceLT, Nat.reduceLeDiff, sz, Option.bind_some, Option.bind_none, Option.map_some, Bool.false_eq_true, if_true, if_false, reduceIte, Nat.zero_add, startE, Bool.not_true, Bool.not_false, decide_true, decide_false, irPart, r4, s4, g, t1, o_divI d1, o_divI d2]
/-! ### a body that leaves lists behind -/
def BodyOk2 (C : Ctl) (B : List IS) (nn E : Nat) : Prop := ∀ (env : EnvD) (m : Mem) (i : Nat) (a b z : Int), env.length = nn → env[1]? = some (some (.ref i)) → Clo m → m[i]? = some (.lst [.int a, .int b, .int z]) → DOk E 0 a b →
  ∃ env' m', env'.length = nn ∧ evalB C B env m = .nx env' m' ∧ Clo m' ∧ (∀ j, j < m.length → j ≠ i → m'[j]? = m[j]?) ∧ m.length ≤ m'.length
theorem for_dice2 {C : Ctl} {B : List IS} {nn E : Nat} (hB : BodyOk2 C B nn E) (hn : 1 < nn) {r : Nat} {L : List D} : ∀ (j k : Nat) (env : EnvD) (m : Mem), env.length = nn → Clo m → m[r]? = some (.lst L) → k + j ≤ r → (∀ i, k ≤ i → i < k + j → ∃ c, m[i]? = some c ∧ IsDice E 0 c) →
    ∃ env' m', forL (some (r, L)) (.var 1) (fun e m2 => evalB C B e m2) ((List.range' k j).map .ref) env m = .nx env' m'
  | 0, k, env, m, _, _, hr, _, _ => ⟨env, m, by
      simp only [List.range'_zero, List.map_nil, forL]
      rw [if_pos (show chkW (some (r, L)) m from hr)]⟩
  | j + 1, k, env, m, hl, hc, hr, hk, hd => by
    obtain ⟨c, h1, a, b, z, rfl, h2⟩ := hd k (Nat.le_refl _) (by omega)
    have hl1 : (env.set 1 (some (.ref k))).length = nn := by rw [List.length_set]; exact hl
    have hrl := (List.getElem?_eq_some_iff.mp hr).1
    obtain ⟨env', m', e1, e2, e3, e4, e5⟩ := hB (env.set 1 (some (.ref k))) m k a b z hl1 (List.getElem?_set_self (by omega)) hc h1 h2
    obtain ⟨env2, m2, e6⟩ := for_dice2 hB hn j (k + 1) env' m' e1 e3 (by rw [e4 r hrl (by omega)]; exact hr) (by omega) (fun i h3 h4 => by
      rw [e4 i (by omega) (by omega)]
      exact hd i (by omega) (by omega))
    refine ⟨env2, m2, ?_⟩
    rw [List.range'_succ, List.map_cons]
    simp only [forL]
    rw [if_pos (show chkW (some (r, L)) m from hr), asgT, if_pos (by omega)]
    simp only [e2]
    exact e6
theorem law_run2 {P : Prog} {n iR iD iL nn most : Nat} {B : List IS} (hR : P.fns[iR]? = some ⟨2, 4, irRounds iD⟩) (hD : P.fns[iD]? = some ⟨1, 1, irDice⟩)
    (hL : P.fns[iL]? = some ⟨1, nn, [(.forS (.var 1) (.seq (.call iR [(.var 0), (.con (.int most))])) B), (.ret (.con (.bl true)))]⟩) (hn : 1 < nn) (hmost : most ≤ 60) {E : Nat} (hE : 31 ≤ E)
    (hB : BodyOk2 (P.ctl (runF P (n + 2)) (runF P n) (n + 2)) B nn E) {m : Mem} (hm : Clo m) {script : D} {ns : List Int}
    (hs : ∀ lo hi, slcD script lo hi m = .ok (.ref m.length) (m ++ [.lst (cutD (ns.map .int) lo hi)])) (hz : ∀ z ∈ ns, z.natAbs < 2 ^ E) : ∃ m', runF P (n + 3) iL [script] m = .ok (.bl true) m' := by
  rw [runF_at hL rfl]
  obtain ⟨pre, ds, h1, h2, h3, h4⟩ := rounds_ok (n := n) hR hD hE hm hmost hs hz
  have e0 : evalE (.call iR [(.var 0), (.con (.int most))]) (P.ctl (runF P (n + 2)) (runF P (n + 2 - 2)) (n + 2)) (startE 1 nn [script]) m = .ok (.ref (m.length + pre.length + ds.length)) (m ++ pre ++ ds ++ [.lst ((List.range' (m.length + pre.length) ds.length).map .ref)]) := by
    simp only [fin_rt, fin_nx, fin_exn, seq_nx, seq_rt, seq_exn, seq_bk, seq_ct, bind_ok, bind_exn, out_ok, out_exn, tst_ok, tst_exn, gc_ok_, gc_exn, gcM_same, asB_bl, selB_t, selB_f, selE_t, selE_f, rdV_some, stT_some, e_var, e_con, e_glo, e_nop, t_bin, t_neg, t_not, t_cmp, t_cmp2, cmp2T_t, cmp2T_f, t_and, t_or, t_if, t_idx, t_tup, t_lst, t_call, t_blt, t_mth, mthT_t, es_nil, ts_cons, b_nil, tb_cons, ts_asg, ts_expr, ts_if, ts_ret, s_rais, seqT_nx, seqT_rt, seqT_exn, seqT_bk, seqT_ct, bindT_ok, bindT_exn, outT_ok, outT_exn, tstT_ok, tstT_exn, asBT_bl, c_eqI, c_neI, c_ltI, c_leI, c_gtI, c_geI, o_addI, o_subI, n_I, abs_N, ix_tup, lift_some, at0, at1, at2, at3, asT_var, asT_tup, asTs_nil, asTs_cons, ctl_call, List.getElem?_cons_zero, List.getElem?_cons_succ, List.set_cons_zero, List.set_cons_succ, List.length_cons, List.length_nil, List.map_cons, List.map_nil, List.cons_append, List.nil_append, List.replicate_succ, List.replicate_zero, Nat.reduceAdd, Nat.reduceSub, Nat.reduceLT, Nat.reduceLeDiff, sz, Option.bind_some, Option.bind_none, Option.map_some, Bool.false_eq_true, if_true, if_false, reduceIte, Nat.zero_add, startE, Bool.not_true, Bool.not_false, decide_true, decide_false, h4]
  obtain ⟨m1, hm1⟩ : ∃ m1, m1 = m ++ pre ++ ds ++ [Cell.lst ((List.range' (m.length + pre.length) ds.length).map .ref)] := ⟨_, rfl⟩
  rw [← hm1] at e0 h3
  have hr : m1[m.length + pre.length + ds.length]? = some (.lst ((List.range' (m.length + pre.length) ds.length).map .ref)) := by
    have : m.length + pre.length + ds.length = (m ++ pre ++ ds).length := by simp only [List.length_append]
    rw [hm1, this, List.getElem?_concat_length]
  have e1 : evalI (.seq (.call iR [(.var 0), (.con (.int most))])) (P.ctl (runF P (n + 2)) (runF P (n + 2 - 2)) (n + 2)) (startE 1 nn [script]) m = .ok ((List.range' (m.length + pre.length) ds.length).map .ref, some (m.length + pre.length + ds.length, (List.range' (m.length + pre.length) ds.length).map .ref)) m1 := by
    simp only [evalI, e0, bind_ok, seqW, hr]
  obtain ⟨env', m', e2⟩ := for_dice2 hB hn ds.length (m.length + pre.length) (startE 1 nn [script]) m1 (by simp [startE]; omega) h3 hr (Nat.le_refl _) (fun i h5 h6 => by
    have hi : i - (m.length + pre.length) < ds.length := by omega
    refine ⟨ds[i - (m.length + pre.length)], ?_, h1 _ (List.getElem_mem hi)⟩
    rw [hm1, List.getElem?_append_left (by simp; omega), List.getElem?_append_right (by simp; omega)]
    simp)
  refine ⟨gcM m.length (.bl true) m', ?_⟩
  have e3 : evalS (P.ctl (runF P (n + 2)) (runF P (n + 2 - 2)) (n + 2)) (.forS (.var 1) (.seq (.call iR [(.var 0), (.con (.int most))])) B) (startE 1 nn [script]) m = .nx env' m' := by
    rw [s_for, e1]
    exact e2
  show finF m.length (evalB _ [_, _] _ m) = _
  rw [b_cons, e3]
  simp only [fin_rt, fin_nx, fin_exn, seq_nx, seq_rt, seq_exn, seq_bk, seq_ct, bind_ok, bind_exn, out_ok, out_exn, tst_ok, tst_exn, gc_ok_, gc_exn, gcM_same, asB_bl, selB_t, selB_f, selE_t, selE_f, rdV_some, stT_some, e_var, e_con, e_glo, e_nop, t_bin, t_neg, t_not, t_cmp, t_cmp2, cmp2T_t, cmp2T_f, t_and, t_or, t_if, t_idx, t_tup, t_lst, t_call, t_blt, t_mth, mthT_t, es_nil, ts_cons, b_nil, tb_cons, ts_asg, ts_expr, ts_if, ts_ret, s_rais, seqT_nx, seqT_rt, seqT_exn, seqT_bk, seqT_ct, bindT_ok, bindT_exn, outT_ok, outT_exn, tstT_ok, tstT_exn, asBT_bl, c_eqI, c_neI, c_ltI, c_leI, c_gtI, c_geI, o_addI, o_subI, n_I, abs_N, ix_tup, lift_some, at0, at1, at2, at3, asT_var, asT_tup, asTs_nil, asTs_cons, ctl_call, List.getElem?_cons_zero, List.getElem?_cons_succ, List.set_cons_zero, List.set_cons_succ, List.length_cons, List.length_nil, List.map_cons, List.map_nil, List.cons_append, List.nil_append, List.replicate_succ, List.replicate_zero, Nat.reduceAdd, Nat.reduceSub, Nat.reduceLT, Nat.reduceLeDiff, sz, Option.bind_some, Option.bind_none, Option.map_some, Bool.false_eq_true, if_true, if_false, reduceIte, Nat.zero_add, startE, Bool.not_true, Bool.not_false, decide_true, decide_false]
theorem plain_of2 {L : LawI} {n iR iD iL nn most : Nat} {B : List IS} (hR : L.prog.fns[iR]? = some ⟨2, 4, irRounds iD⟩) (hD : L.prog.fns[iD]? = some ⟨1, 1, irDice⟩)
    (hL : L.prog.fns[iL]? = some ⟨1, nn, [(.forS (.var 1) (.seq (.call iR [(.var 0), (.con (.int most))])) B), (.ret (.con (.bl true)))]⟩) (hn : 1 < nn) (hmost : most ≤ 60)
    (hB : ∀ E, 31 ≤ E → E ≤ 134217700 → BodyOk2 (L.prog.ctl (runF L.prog (n + 2)) (runF L.prog n) (n + 2)) B nn E) : Plain L (n + 3) 63 iL := by
  intro ns _ hb
  obtain ⟨E, hE⟩ : ∃ E, E = 1048576 := ⟨_, rfl⟩
  have hz : ∀ z ∈ ns, z.natAbs < 2 ^ E := fun z h => bits_lt (by rw [hE]; exact hb z h)
  have h1 : 31 ≤ E := by omega
  have h2 : E ≤ 134217700 := by omega
  refine ⟨law_run2 hR hD hL hn hmost h1 (hB E h1 h2) (m := []) (fun c h => by simp at h) (fun lo hi => rfl) hz, law_run2 hR hD hL hn hmost h1 (hB E h1 h2) (m := [.lst (ns.map .int)]) (fun c h => ?_) (fun lo hi => rfl) hz⟩
  rw [List.mem_singleton.mp h]
  exact ints_undr ns
/-! ### what is told of what is raised -/
theorem told_exn {C : Ctl} {f : Nat} {cl : List (Str × Str)} {e : IE} {env : EnvD} {m m1 m2 : Mem} {c s : Str} {p : Option D} (h1 : C.told.lookup f = some cl) (h2 : evalE e C.inner env m = .exn c p m1) (h3 : toldM C.sub c cl = some s) (h4 : gcM m.length (.str s) m1 = m2) :
    evalE (.told f e) C env m = .ok (.str s) m2 := by
  simp only [evalE, h1, h2, h3, gc_ok_, h4]
theorem ne_strs {x : Str} {m : Mem} (hx : PyData.strOk x = true) : cmpD .NotEq (.str x) (.str x) m = .ok (.bl false) m := by
  have e : eqD m (.str x) (.str x) = some true := by
    have h : SeqAt.shaped (.str x) = true := by
      unfold SeqAt.shaped
      simp [PyData.canLay0, PyData.depth, hx]
    show (if SeqAt.shaped (.str x) = true ∧ SeqAt.shaped (.str x) = true then some (PyData.eqv (.str x) (.str x)) else none) = _
    rw [if_pos ⟨h, h⟩]
    simp [PyData.eqv, BEq.beq]
  simp only [cmpD, e, liftO, Option.map_some, Bool.not_true]
end Dat

/-! O16 -/
set_option maxRecDepth 100000
set_option maxHeartbeats 1000000
set_option linter.all false
/-! O16: the law's own defs: inner rows, powers. -/
namespace Dat.K16
open PySem L2
theorem f_roll : LL.prog.fns[23]? = some ⟨2, 3, irRoll⟩ := fnA (d := d__law_roll) rfl
theorem f_gcd : LL.prog.fns[26]? = some ⟨2, 2, irShared⟩ := fnA (d := d__law_gcd) rfl
theorem f_part : LL.prog.fns[27]? = some ⟨1, 4, irPart 26 23⟩ := fnA (d := d__law_part) rfl
def no : List IS := [(.ret (.con (.bl false)))]
/-! ### sums of powers -/
def nStp : IS := .asg (.tup [(.var 5), (.var 6)]) (.tup [(.call 8 [(.var 5), (.call 10 [(.var 6), (.idx (.var 0) (.var 7))])]), (.call 11 [(.var 6), (.var 4)])])
def nLoop : IS := .forS (.var 7) (.rng1 [(.con (.int 6))]) [nStp]
def n1 : IS := .asg (.var 4) (.bin .Add (.tup [(.tup [(.con (.int 0)), (.con (.int 1))])]) (.slc true false (.var 1) (.con (.int 1)) .nop))
def n2 : IS := .asg (.tup [(.var 5), (.var 6)]) (.tup [(.call 7 [(.tup []), (.con (.int 6))]), (.var 2)])
def n4 : IS := .ifS (.cmp .NotEq (.call 15 [(.var 0), (.var 4)]) (.var 5)) no []
def n5 : IS := .ifS (.andE (.cmp .NotEq (.idx (.idx (.var 4) (.con (.int 1))) (.con (.int 0))) (.con (.int 0))) (.orE (.cmp .NotEq (.call 15 [(.var 4), (.call 16 [(.var 4)])]) (.var 3)) (.cmp .NotEq (.call 15 [(.call 16 [(.var 4)]), (.var 4)]) (.var 3)))) no []
def n6 : IS := .asg (.var 8) (.call 17 [(.var 4)])
def n7 : IS := .ifS (.orE (.cmp .NotEq (.call 13 [(.var 8)]) (.slc false true (.call 11 [(.call 7 [(.call 13 [(.var 4)]), (.con (.int 6))]), (.var 8)]) .nop (.con (.int 5)))) (.cmp .NotEq (.call 18 [(.var 8)]) (.var 4))) no []
theorem ir_inner_eq : ir__law_inner = [n1, n2, nLoop, n4, n5, n6, n7, (.ret (.con (.bl true)))] := rfl
def envN (P Q O L I T W : D) (o7 o8 : Option D) : EnvD := [some P, some Q, some O, some L, some I, some T, some W, o7, o8]
section
variable {C : Ctl} {m : Mem} {P Q O L I T W : D} {o7 o8 : Option D}
theorem nStp_any {x s T' W' : D} {k : Nat} (i : idxD P (.int k) m = .ok x m) (t10 : C.call 10 [W, x] m = .ok s m) (t8 : C.call 8 [T, s] m = .ok T' m) (t11 : C.call 11 [W, I] m = .ok W' m) :
    evalS C nStp (envN P Q O L I T W (some (.int k)) o8) m = .nx (envN P Q O L I T' W' (some (.int k)) o8) m := by
  simp only [fin_rt, fin_nx, fin_exn, seq_nx, seq_rt, seq_exn, seq_bk, seq_ct, bind_ok, bind_exn, out_ok, out_exn, tst_ok, tst_exn, gc_ok_, gc_exn, gcM_same, asB_bl, selB_t, selB_f, selE_t, selE_f, rdV_some, stT_some, e_var, e_con, e_glo, e_nop, t_bin, t_neg, t_not, t_cmp, t_cmp2, cmp2T_t, cmp2T_f, t_and, t_or, t_if, t_idx, t_tup, t_lst, t_call, t_blt, t_mth, mthT_t, es_nil, ts_cons, b_nil, tb_cons, ts_asg, ts_expr, ts_if, ts_ret, s_rais, seqT_nx, seqT_rt, seqT_exn, seqT_bk, seqT_ct, bindT_ok, bindT_exn, outT_ok, outT_exn, tstT_ok, tstT_exn, asBT_bl, c_eqI, c_neI, c_ltI, c_leI, c_gtI, c_geI, o_addI, o_subI, n_I, abs_N, ix_tup, lift_some, at0, at1, at2, at3, asT_var, asT_tup, asTs_nil, asTs_cons, ctl_call, List.getElem?_cons_zero, List.getElem?_cons_succ, List.set_cons_zero, List.set_cons_succ, List.length_cons, List.length_nil, List.map_cons, List.map_nil, List.cons_append, List.nil_append, List.replicate_succ, List.replicate_zero, Nat.reduceAdd, Nat.reduceSub, Nat.reduceLT, Nat.reduceLeDiff, sz, Option.bind_some, Option.bind_none, Option.map_some, Bool.false_eq_true, if_true, if_false, reduceIte, Nat.zero_add, startE, Bool.not_true, Bool.not_false, decide_true, decide_false, nStp, envN, i, t10, t8, t11]
theorem n4_any {Y : D} (t : C.call 15 [P, I] m = .ok Y m) (e : cmpD .NotEq Y T m = .ok (.bl false) m) : evalS C n4 (envN P Q O L I T W o7 o8) m = .nx (envN P Q O L I T W o7 o8) m := by
  simp only [fin_rt, fin_nx, fin_exn, seq_nx, seq_rt, seq_exn, seq_bk, seq_ct, bind_ok, bind_exn, out_ok, out_exn, tst_ok, tst_exn, gc_ok_, gc_exn, gcM_same, asB_bl, selB_t, selB_f, selE_t, selE_f, rdV_some, stT_some, e_var, e_con, e_glo, e_nop, t_bin, t_neg, t_not, t_cmp, t_cmp2, cmp2T_t, cmp2T_f, t_and, t_or, t_if, t_idx, t_tup, t_lst, t_call, t_blt, t_mth, mthT_t, es_nil, ts_cons, b_nil, tb_cons, ts_asg, ts_expr, ts_if, ts_ret, s_rais, seqT_nx, seqT_rt, seqT_exn, seqT_bk, seqT_ct, bindT_ok, bindT_exn, outT_ok, outT_exn, tstT_ok, tstT_exn, asBT_bl, c_eqI, c_neI, c_ltI, c_leI, c_gtI, c_geI, o_addI, o_subI, n_I, abs_N, ix_tup, lift_some, at0, at1, at2, at3, asT_var, asT_tup, asTs_nil, asTs_cons, ctl_call, List.getElem?_cons_zero, List.getElem?_cons_succ, List.set_cons_zero, List.set_cons_succ, List.length_cons, List.length_nil, List.map_cons, List.map_nil, List.cons_append, List.nil_append, List.replicate_succ, List.replicate_zero, Nat.reduceAdd, Nat.reduceSub, Nat.reduceLT, Nat.reduceLeDiff, sz, Option.bind_some, Option.bind_none, Option.map_some, Bool.false_eq_true, if_true, if_false, reduceIte, Nat.zero_add, startE, Bool.not_true, Bool.not_false, decide_true, decide_false, n4, no, envN, t, e]
theorem n5_no {x : D} (i : idxD I (.int 1) m = .ok x m) (j : idxD x (.int 0) m = .ok (.int 0) m) : evalS C n5 (envN P Q O L I T W o7 o8) m = .nx (envN P Q O L I T W o7 o8) m := by
  simp only [fin_rt, fin_nx, fin_exn, seq_nx, seq_rt, seq_exn, seq_bk, seq_ct, bind_ok, bind_exn, out_ok, out_exn, tst_ok, tst_exn, gc_ok_, gc_exn, gcM_same, asB_bl, selB_t, selB_f, selE_t, selE_f, rdV_some, stT_some, e_var, e_con, e_glo, e_nop, t_bin, t_neg, t_not, t_cmp, t_cmp2, cmp2T_t, cmp2T_f, t_and, t_or, t_if, t_idx, t_tup, t_lst, t_call, t_blt, t_mth, mthT_t, es_nil, ts_cons, b_nil, tb_cons, ts_asg, ts_expr, ts_if, ts_ret, s_rais, seqT_nx, seqT_rt, seqT_exn, seqT_bk, seqT_ct, bindT_ok, bindT_exn, outT_ok, outT_exn, tstT_ok, tstT_exn, asBT_bl, c_eqI, c_neI, c_ltI, c_leI, c_gtI, c_geI, o_addI, o_subI, n_I, abs_N, ix_tup, lift_some, at0, at1, at2, at3, asT_var, asT_tup, asTs_nil, asTs_cons, ctl_call, List.getElem?_cons_zero, List.getElem?_cons_succ, List.set_cons_zero, List.set_cons_succ, List.length_cons, List.length_nil, List.map_cons, List.map_nil, List.cons_append, List.nil_append, List.replicate_succ, List.replicate_zero, Nat.reduceAdd, Nat.reduceSub, Nat.reduceLT, Nat.reduceLeDiff, sz, Option.bind_some, Option.bind_none, Option.map_some, Bool.false_eq_true, if_true, if_false, reduceIte, Nat.zero_add, startE, Bool.not_true, Bool.not_false, decide_true, decide_false, n5, no, envN, i, j]
theorem n5_any {x V Y Z : D} {a : Int} (i : idxD I (.int 1) m = .ok x m) (j : idxD x (.int 0) m = .ok (.int a) m) (ha : a ≠ 0) (t16 : C.call 16 [I] m = .ok V m) (t1 : C.call 15 [I, V] m = .ok Y m) (e1 : cmpD .NotEq Y L m = .ok (.bl false) m) (t2 : C.call 15 [V, I] m = .ok Z m) (e2 : cmpD .NotEq Z L m = .ok (.bl false) m) :
    evalS C n5 (envN P Q O L I T W o7 o8) m = .nx (envN P Q O L I T W o7 o8) m := by
  simp only [fin_rt, fin_nx, fin_exn, seq_nx, seq_rt, seq_exn, seq_bk, seq_ct, bind_ok, bind_exn, out_ok, out_exn, tst_ok, tst_exn, gc_ok_, gc_exn, gcM_same, asB_bl, selB_t, selB_f, selE_t, selE_f, rdV_some, stT_some, e_var, e_con, e_glo, e_nop, t_bin, t_neg, t_not, t_cmp, t_cmp2, cmp2T_t, cmp2T_f, t_and, t_or, t_if, t_idx, t_tup, t_lst, t_call, t_blt, t_mth, mthT_t, es_nil, ts_cons, b_nil, tb_cons, ts_asg, ts_expr, ts_if, ts_ret, s_rais, seqT_nx, seqT_rt, seqT_exn, seqT_bk, seqT_ct, bindT_ok, bindT_exn, outT_ok, outT_exn, tstT_ok, tstT_exn, asBT_bl, c_eqI, c_neI, c_ltI, c_leI, c_gtI, c_geI, o_addI, o_subI, n_I, abs_N, ix_tup, lift_some, at0, at1, at2, at3, asT_var, asT_tup, asTs_nil, asTs_cons, ctl_call, List.getElem?_cons_zero, List.getElem?_cons_succ, List.set_cons_zero, List.set_cons_succ, List.length_cons, List.length_nil, List.map_cons, List.map_nil, List.cons_append, List.nil_append, List.replicate_succ, List.replicate_zero, Nat.reduceAdd, Nat.reduceSub, Nat.reduceLT, Nat.reduceLeDiff, sz, Option.bind_some, Option.bind_none, Option.map_some, Bool.false_eq_true, if_true, if_false, reduceIte, Nat.zero_add, startE, Bool.not_true, Bool.not_false, decide_true, decide_false, n5, no, envN, i, j, ha, t16, t1, e1, t2, e2]
theorem n6_any {X : D} (t : C.call 17 [I] m = .ok X m) : evalS C n6 (envN P Q O L I T W o7 o8) m = .nx (envN P Q O L I T W o7 (some X)) m := by
  simp only [fin_rt, fin_nx, fin_exn, seq_nx, seq_rt, seq_exn, seq_bk, seq_ct, bind_ok, bind_exn, out_ok, out_exn, tst_ok, tst_exn, gc_ok_, gc_exn, gcM_same, asB_bl, selB_t, selB_f, selE_t, selE_f, rdV_some, stT_some, e_var, e_con, e_glo, e_nop, t_bin, t_neg, t_not, t_cmp, t_cmp2, cmp2T_t, cmp2T_f, t_and, t_or, t_if, t_idx, t_tup, t_lst, t_call, t_blt, t_mth, mthT_t, es_nil, ts_cons, b_nil, tb_cons, ts_asg, ts_expr, ts_if, ts_ret, s_rais, seqT_nx, seqT_rt, seqT_exn, seqT_bk, seqT_ct, bindT_ok, bindT_exn, outT_ok, outT_exn, tstT_ok, tstT_exn, asBT_bl, c_eqI, c_neI, c_ltI, c_leI, c_gtI, c_geI, o_addI, o_subI, n_I, abs_N, ix_tup, lift_some, at0, at1, at2, at3, asT_var, asT_tup, asTs_nil, asTs_cons, ctl_call, List.getElem?_cons_zero, List.getElem?_cons_succ, List.set_cons_zero, List.set_cons_succ, List.length_cons, List.length_nil, List.map_cons, List.map_nil, List.cons_append, List.nil_append, List.replicate_succ, List.replicate_zero, Nat.reduceAdd, Nat.reduceSub, Nat.reduceLT, Nat.reduceLeDiff, sz, Option.bind_some, Option.bind_none, Option.map_some, Bool.false_eq_true, if_true, if_false, reduceIte, Nat.zero_add, startE, Bool.not_true, Bool.not_false, decide_true, decide_false, n6, envN, t]
theorem n7_any {X S S1 K Y R : D} {l : List D} (t13 : C.call 13 [X] m = .ok S m) (t1 : C.call 13 [I] m = .ok S1 m) (t7 : C.call 7 [S1, .int 6] m = .ok K m) (t11 : C.call 11 [K, X] m = .ok (.tup l) m) (e1 : cmpD .NotEq S (.tup (l.take 5)) m = .ok (.bl false) m) (t18 : C.call 18 [X] m = .ok R m) (e2 : cmpD .NotEq R I m = .ok (.bl false) m) :
    evalS C n7 (envN P Q O L I T W o7 (some X)) m = .nx (envN P Q O L I T W o7 (some X)) m := by
  have e3 : evalE (.slc false true (.call 11 [(.call 7 [(.call 13 [(.var 4)]), (.con (.int 6))]), (.var 8)]) .nop (.con (.int 5))) C (envN P Q O L I T W o7 (some X)) m = .ok (.tup (l.take 5)) m := by
    have q := cut_take (l := l) (k := 5)
    rw [show ((5 : Nat) : Int) = 5 from rfl] at q
    rw [e_slc01]
    simp only [fin_rt, fin_nx, fin_exn, seq_nx, seq_rt, seq_exn, seq_bk, seq_ct, bind_ok, bind_exn, out_ok, out_exn, tst_ok, tst_exn, gc_ok_, gc_exn, gcM_same, asB_bl, selB_t, selB_f, selE_t, selE_f, rdV_some, stT_some, e_var, e_con, e_glo, e_nop, t_bin, t_neg, t_not, t_cmp, t_cmp2, cmp2T_t, cmp2T_f, t_and, t_or, t_if, t_idx, t_tup, t_lst, t_call, t_blt, t_mth, mthT_t, es_nil, ts_cons, b_nil, tb_cons, ts_asg, ts_expr, ts_if, ts_ret, s_rais, seqT_nx, seqT_rt, seqT_exn, seqT_bk, seqT_ct, bindT_ok, bindT_exn, outT_ok, outT_exn, tstT_ok, tstT_exn, asBT_bl, c_eqI, c_neI, c_ltI, c_leI, c_gtI, c_geI, o_addI, o_subI, n_I, abs_N, ix_tup, lift_some, at0, at1, at2, at3, asT_var, asT_tup, asTs_nil, asTs_cons, ctl_call, List.getElem?_cons_zero, List.getElem?_cons_succ, List.set_cons_zero, List.set_cons_succ, List.length_cons, List.length_nil, List.map_cons, List.map_nil, List.cons_append, List.nil_append, List.replicate_succ, List.replicate_zero, Nat.reduceAdd, Nat.reduceSub, Nat.reduceLT, Nat.reduceLeDiff, sz, Option.bind_some, Option.bind_none, Option.map_some, Bool.false_eq_true, if_true, if_false, reduceIte, Nat.zero_add, startE, Bool.not_true, Bool.not_false, decide_true, decide_false, envN, t1, t7, t11, partD, slcD, q]
  have e4 : evalE (.call 13 [(.var 8)]) C (envN P Q O L I T W o7 (some X)) m = .ok S m := by simp only [fin_rt, fin_nx, fin_exn, seq_nx, seq_rt, seq_exn, seq_bk, seq_ct, bind_ok, bind_exn, out_ok, out_exn, tst_ok, tst_exn, gc_ok_, gc_exn, gcM_same, asB_bl, selB_t, selB_f, selE_t, selE_f, rdV_some, stT_some, e_var, e_con, e_glo, e_nop, t_bin, t_neg, t_not, t_cmp, t_cmp2, cmp2T_t, cmp2T_f, t_and, t_or, t_if, t_idx, t_tup, t_lst, t_call, t_blt, t_mth, mthT_t, es_nil, ts_cons, b_nil, tb_cons, ts_asg, ts_expr, ts_if, ts_ret, s_rais, seqT_nx, seqT_rt, seqT_exn, seqT_bk, seqT_ct, bindT_ok, bindT_exn, outT_ok, outT_exn, tstT_ok, tstT_exn, asBT_bl, c_eqI, c_neI, c_ltI, c_leI, c_gtI, c_geI, o_addI, o_subI, n_I, abs_N, ix_tup, lift_some, at0, at1, at2, at3, asT_var, asT_tup, asTs_nil, asTs_cons, ctl_call, List.getElem?_cons_zero, List.getElem?_cons_succ, List.set_cons_zero, List.set_cons_succ, List.length_cons, List.length_nil, List.map_cons, List.map_nil, List.cons_append, List.nil_append, List.replicate_succ, List.replicate_zero, Nat.reduceAdd, Nat.reduceSub, Nat.reduceLT, Nat.reduceLeDiff, sz, Option.bind_some, Option.bind_none, Option.map_some, Bool.false_eq_true, if_true, if_false, reduceIte, Nat.zero_add, startE, Bool.not_true, Bool.not_false, decide_true, decide_false, envN, t13]
  have e5 : evalE (.call 18 [(.var 8)]) C (envN P Q O L I T W o7 (some X)) m = .ok R m := by simp only [fin_rt, fin_nx, fin_exn, seq_nx, seq_rt, seq_exn, seq_bk, seq_ct, bind_ok, bind_exn, out_ok, out_exn, tst_ok, tst_exn, gc_ok_, gc_exn, gcM_same, asB_bl, selB_t, selB_f, selE_t, selE_f, rdV_some, stT_some, e_var, e_con, e_glo, e_nop, t_bin, t_neg, t_not, t_cmp, t_cmp2, cmp2T_t, cmp2T_f, t_and, t_or, t_if, t_idx, t_tup, t_lst, t_call, t_blt, t_mth, mthT_t, es_nil, ts_cons, b_nil, tb_cons, ts_asg, ts_expr, ts_if, ts_ret, s_rais, seqT_nx, seqT_rt, seqT_exn, seqT_bk, seqT_ct, bindT_ok, bindT_exn, outT_ok, outT_exn, tstT_ok, tstT_exn, asBT_bl, c_eqI, c_neI, c_ltI, c_leI, c_gtI, c_geI, o_addI, o_subI, n_I, abs_N, ix_tup, lift_some, at0, at1, at2, at3, asT_var, asT_tup, asTs_nil, asTs_cons, ctl_call, List.getElem?_cons_zero, List.getElem?_cons_succ, List.set_cons_zero, List.set_cons_succ, List.length_cons, List.length_nil, List.map_cons, List.map_nil, List.cons_append, List.nil_append, List.replicate_succ, List.replicate_zero, Nat.reduceAdd, Nat.reduceSub, Nat.reduceLT, Nat.reduceLeDiff, sz, Option.bind_some, Option.bind_none, Option.map_some, Bool.false_eq_true, if_true, if_false, reduceIte, Nat.zero_add, startE, Bool.not_true, Bool.not_false, decide_true, decide_false, envN, t18]
  have e6 : evalE (.var 4) C (envN P Q O L I T W o7 (some X)) m = .ok I m := by simp only [fin_rt, fin_nx, fin_exn, seq_nx, seq_rt, seq_exn, seq_bk, seq_ct, bind_ok, bind_exn, out_ok, out_exn, tst_ok, tst_exn, gc_ok_, gc_exn, gcM_same, asB_bl, selB_t, selB_f, selE_t, selE_f, rdV_some, stT_some, e_var, e_con, e_glo, e_nop, t_bin, t_neg, t_not, t_cmp, t_cmp2, cmp2T_t, cmp2T_f, t_and, t_or, t_if, t_idx, t_tup, t_lst, t_call, t_blt, t_mth, mthT_t, es_nil, ts_cons, b_nil, tb_cons, ts_asg, ts_expr, ts_if, ts_ret, s_rais, seqT_nx, seqT_rt, seqT_exn, seqT_bk, seqT_ct, bindT_ok, bindT_exn, outT_ok, outT_exn, tstT_ok, tstT_exn, asBT_bl, c_eqI, c_neI, c_ltI, c_leI, c_gtI, c_geI, o_addI, o_subI, n_I, abs_N, ix_tup, lift_some, at0, at1, at2, at3, asT_var, asT_tup, asTs_nil, asTs_cons, ctl_call, List.getElem?_cons_zero, List.getElem?_cons_succ, List.set_cons_zero, List.set_cons_succ, List.length_cons, List.length_nil, List.map_cons, List.map_nil, List.cons_append, List.nil_append, List.replicate_succ, List.replicate_zero, Nat.reduceAdd, Nat.reduceSub, Nat.reduceLT, Nat.reduceLeDiff, sz, Option.bind_some, Option.bind_none, Option.map_some, Bool.false_eq_true, if_true, if_false, reduceIte, Nat.zero_add, startE, Bool.not_true, Bool.not_false, decide_true, decide_false, envN]
  generalize envN P Q O L I T W o7 (some X) = env at *
  unfold n7
  rw [s_if, e_or, e_cmp, e4, bind_ok, e3, bind_ok, e1, bind_ok, asB_bl, selE_f, e_cmp, e5, bind_ok, e6, bind_ok, e2, tst_ok, selB_f, b_nil, gcM_same]
end
def totW (P I : List Wt) : Nat → List Wt × List Wt
  | 0 => (cutW [] 6, cutW [some (0, 0)] 6)
  | k + 1 => (plusW (totW P I k).1 (scaledW (totW P I k).2 (P.getD k none) 6) 6, prodW (totW P I k).2 I 6)
theorem tot_len (p q : List Rat) : ∀ k, (totN p q k).1.length = 6 ∧ (totN p q k).2.length = 6
  | 0 => ⟨rfl, rfl⟩
  | k + 1 => by
    obtain ⟨h1, h2⟩ := tot_len p q k
    refine ⟨?_, ?_⟩
    · show (plusR _ _).length = 6
      simp [plusR, h1]
    · show (prodR _ _).length = 6
      rw [prodR_len, h2]
theorem tot_hl {P I : List Wt} {p q : List Rat} (hp : HL P p) (hq : HL I q) : ∀ k, HL (totW P I k).1 (totN p q k).1 ∧ HL (totW P I k).2 (totN p q k).2
  | 0 => ⟨cut_hl hl_nil 6, cut_hl hl_one 6⟩
  | k + 1 => by
    obtain ⟨h1, h2⟩ := tot_hl hp hq k
    obtain ⟨l1, l2⟩ := tot_len p q k
    have a := scaled_hl h2 (hp k)
    rw [l2] at a
    have b := plus_hl h1 a
    rw [l1] at b
    have c := prod_hl h2 hq
    rw [l2] at c
    exact ⟨b, c⟩
def totO (P I : List Wt) : Bool := (List.range 6).all fun k => (wOks (totW P I k).2 && wOks (scaledW (totW P I k).2 (P.getD k none) 6)) && (wOks (plusW (totW P I k).1 (scaledW (totW P I k).2 (P.getD k none) 6) 6) && wOks (prodW (totW P I k).2 I 6))
theorem tot_ok : totO wp wi = true := by decide +kernel
theorem wp_ok : wOks wp = true := by decide +kernel
theorem wi_ok : wOks wi = true := by decide +kernel
theorem ws_ok : wOks ws = true := by decide +kernel
theorem hl_i {q0 q1 q2 q3 q4 q5 : Rat} (h : HL wp [q0, q1, q2, q3, q4, q5]) : HL wi [0, q1, q2, q3, q4, q5] := fun i => match i with
  | 0 => rfl
  | i + 1 => h (i + 1)
theorem hl_s {q0 q1 q2 q3 q4 q5 : Rat} (h : HL wp [q0, q1, q2, q3, q4, q5]) : HL ws [1, q1, q2, q3, q4, q5] := fun i => match i with
  | 0 => hw1
  | i + 1 => h (i + 1)
theorem inner_ok {m : Mem} (hm : Clo m) {p0 p1 p2 p3 p4 p5 q0 q1 q2 q3 q4 q5 : Rat} (hp : HL wp [p0, p1, p2, p3, p4, p5]) (hq : HL wp [q0, q1, q2, q3, q4, q5]) :
    runF LL.prog 59 28 [rowD [p0, p1, p2, p3, p4, p5], rowD [q0, q1, q2, q3, q4, q5], rowD (cutR [1] 6), rowD (cutR [0, 1] 6)] m = .ok (.bl true) m := by
  have hf : LL.prog.fns[28]? = some ⟨4, 9, ir__law_inner⟩ := fnA (d := d__law_inner) rfl
  rw [runF_at (n := 58) hf rfl]
  obtain ⟨C, hC⟩ : ∃ C, C = LL.prog.ctl (runF LL.prog 58) (runF LL.prog (58 - 2)) 58 := ⟨_, rfl⟩
  have cc : C.call = runF LL.prog 58 := by rw [hC]; rfl
  rw [← hC]
  have hi := hl_i hq
  obtain ⟨p, ep⟩ : ∃ p, p = [p0, p1, p2, p3, p4, p5] := ⟨_, rfl⟩
  obtain ⟨x, ex⟩ : ∃ x, x = [0, q1, q2, q3, q4, q5] := ⟨_, rfl⟩
  have lp : p.length = 6 := by rw [ep]; rfl
  have lx : x.length = 6 := by rw [ex]; rfl
  rw [← ep] at hp ⊢
  rw [← ex] at hi
  have a1 : evalS C n1 [some (rowD p), some (rowD [q0, q1, q2, q3, q4, q5]), some (rowD (cutR [1] 6)), some (rowD (cutR [0, 1] 6)), none, none, none, none, none] m = .nx [some (rowD p), some (rowD [q0, q1, q2, q3, q4, q5]), some (rowD (cutR [1] 6)), some (rowD (cutR [0, 1] 6)), some (rowD x), none, none, none, none] m := by
    have h := head_tail (C := C) (env := [some (rowD p), some (rowD [q0, q1, q2, q3, q4, q5]), some (rowD (cutR [1] 6)), some (rowD (cutR [0, 1] 6)), none, none, none, none, none]) (m := m) (v := 1) (e := .tup [(.con (.int 0)), (.con (.int 1))]) (r := [q0, q1, q2, q3, q4, q5]) (x := 0) rfl (by
      rw [enc0]
      simp only [fin_rt, fin_nx, fin_exn, seq_nx, seq_rt, seq_exn, seq_bk, seq_ct, bind_ok, bind_exn, out_ok, out_exn, tst_ok, tst_exn, gc_ok_, gc_exn, gcM_same, asB_bl, selB_t, selB_f, selE_t, selE_f, rdV_some, stT_some, e_var, e_con, e_glo, e_nop, t_bin, t_neg, t_not, t_cmp, t_cmp2, cmp2T_t, cmp2T_f, t_and, t_or, t_if, t_idx, t_tup, t_lst, t_call, t_blt, t_mth, mthT_t, es_nil, ts_cons, b_nil, tb_cons, ts_asg, ts_expr, ts_if, ts_ret, s_rais, seqT_nx, seqT_rt, seqT_exn, seqT_bk, seqT_ct, bindT_ok, bindT_exn, outT_ok, outT_exn, tstT_ok, tstT_exn, asBT_bl, c_eqI, c_neI, c_ltI, c_leI, c_gtI, c_geI, o_addI, o_subI, n_I, abs_N, ix_tup, lift_some, at0, at1, at2, at3, asT_var, asT_tup, asTs_nil, asTs_cons, ctl_call, List.getElem?_cons_zero, List.getElem?_cons_succ, List.set_cons_zero, List.set_cons_succ, List.length_cons, List.length_nil, List.map_cons, List.map_nil, List.cons_append, List.nil_append, List.replicate_succ, List.replicate_zero, Nat.reduceAdd, Nat.reduceSub, Nat.reduceLT, Nat.reduceLeDiff, sz, Option.bind_some, Option.bind_none, Option.map_some, Bool.false_eq_true, if_true, if_false, reduceIte, Nat.zero_add, startE, Bool.not_true, Bool.not_false, decide_true, decide_false]) (by simp)
    unfold n1
    rw [s_asg, h, gc_ok_, gcM_same, out_ok]
    rw [ex]
    rfl
  have t7 : C.call 7 [.tup [], .int 6] m = .ok (rowD (cutR [] 6)) m := by rw [cc]; exact cut_ok (n := 57) hm [] (N := 6) (by decide)
  have a2 : evalS C n2 [some (rowD p), some (rowD [q0, q1, q2, q3, q4, q5]), some (rowD (cutR [1] 6)), some (rowD (cutR [0, 1] 6)), some (rowD x), none, none, none, none] m = .nx (envN (rowD p) (rowD [q0, q1, q2, q3, q4, q5]) (rowD (cutR [1] 6)) (rowD (cutR [0, 1] 6)) (rowD x) (rowD (totN p x 0).1) (rowD (totN p x 0).2) none none) m := by
    show _ = Out.nx (envN (rowD p) (rowD [q0, q1, q2, q3, q4, q5]) (rowD (cutR [1] 6)) (rowD (cutR [0, 1] 6)) (rowD x) (rowD (cutR [] 6)) (rowD (cutR [1] 6)) none none) m
    generalize rowD (cutR [] 6) = z at *
    generalize rowD (cutR [1] 6) = o at *
    simp only [fin_rt, fin_nx, fin_exn, seq_nx, seq_rt, seq_exn, seq_bk, seq_ct, bind_ok, bind_exn, out_ok, out_exn, tst_ok, tst_exn, gc_ok_, gc_exn, gcM_same, asB_bl, selB_t, selB_f, selE_t, selE_f, rdV_some, stT_some, e_var, e_con, e_glo, e_nop, t_bin, t_neg, t_not, t_cmp, t_cmp2, cmp2T_t, cmp2T_f, t_and, t_or, t_if, t_idx, t_tup, t_lst, t_call, t_blt, t_mth, mthT_t, es_nil, ts_cons, b_nil, tb_cons, ts_asg, ts_expr, ts_if, ts_ret, s_rais, seqT_nx, seqT_rt, seqT_exn, seqT_bk, seqT_ct, bindT_ok, bindT_exn, outT_ok, outT_exn, tstT_ok, tstT_exn, asBT_bl, c_eqI, c_neI, c_ltI, c_leI, c_gtI, c_geI, o_addI, o_subI, n_I, abs_N, ix_tup, lift_some, at0, at1, at2, at3, asT_var, asT_tup, asTs_nil, asTs_cons, ctl_call, List.getElem?_cons_zero, List.getElem?_cons_succ, List.set_cons_zero, List.set_cons_succ, List.length_cons, List.length_nil, List.map_cons, List.map_nil, List.cons_append, List.nil_append, List.replicate_succ, List.replicate_zero, Nat.reduceAdd, Nat.reduceSub, Nat.reduceLT, Nat.reduceLeDiff, sz, Option.bind_some, Option.bind_none, Option.map_some, Bool.false_eq_true, if_true, if_false, reduceIte, Nat.zero_add, startE, Bool.not_true, Bool.not_false, decide_true, decide_false, n2, envN, t7]
  obtain ⟨env', m', e, hme, o7, he⟩ := for_rng (v := 7) (b := fun e m2 => evalB C [nStp] e m2) (a := 0) (k := 6) (env := envN (rowD p) (rowD [q0, q1, q2, q3, q4, q5]) (rowD (cutR [1] 6)) (rowD (cutR [0, 1] 6)) (rowD x) (rowD (totN p x 0).1) (rowD (totN p x 0).2) none none) (m := m)
    (fun i env m1 => m1 = m ∧ ∃ o7, env = envN (rowD p) (rowD [q0, q1, q2, q3, q4, q5]) (rowD (cutR [1] 6)) (rowD (cutR [0, 1] 6)) (rowD x) (rowD (totN p x i).1) (rowD (totN p x i).2) o7 none)
    (fun i env m1 hi6 hI => by
      obtain ⟨rfl, o7, rfl⟩ := hI
      have hO := List.all_eq_true.mp tot_ok i (List.mem_range.mpr hi6)
      simp only [Bool.and_eq_true] at hO
      obtain ⟨⟨w1, w2⟩, w3, w4⟩ := hO
      obtain ⟨h1, h2⟩ := tot_hl hp hi i
      obtain ⟨l1, l2⟩ := tot_len p x i
      have hs := scaled_hl h2 (hp i)
      rw [l2] at hs
      have t10 : C.call 10 [rowD (totN p x i).2, encQ (p.getD i 0)] m1 = .ok (rowD (scaledR (totN p x i).2 (p.getD i 0))) m1 := by
        rw [cc]
        exact scaled_ok (n := 54) hm h2 (hp i) (by omega) w1 (wOks_at wp_ok i) (by rw [l2]; exact w2)
      have t8 : C.call 8 [rowD (totN p x i).1, rowD (scaledR (totN p x i).2 (p.getD i 0))] m1 = .ok (rowD (plusR (totN p x i).1 (scaledR (totN p x i).2 (p.getD i 0)))) m1 := by
        rw [cc]
        exact plus_ok (n := 54) hm h1 hs (by rw [scaledR_len, l1, l2]) (by omega) (by rw [l1]; exact w3)
      have t11 : C.call 11 [rowD (totN p x i).2, rowD x] m1 = .ok (rowD (prodR (totN p x i).2 x)) m1 := by
        rw [cc]
        exact prod_ok (n := 54) hm h2 hi w1 wi_ok (by omega) (by omega) (by rw [l2]; exact w4)
      refine ⟨by simp [envN], _, _, ?_, rfl, some (.int i), rfl⟩
      have st := nStp_any (C := C) (m := m1) (P := rowD p) (Q := rowD [q0, q1, q2, q3, q4, q5]) (O := rowD (cutR [1] 6)) (L := rowD (cutR [0, 1] 6)) (I := rowD x) (o8 := none) (ixr (m := m1) (p := p) (k := i) (by omega)) t10 t8 t11
      show evalB C [nStp] (envN (rowD p) (rowD [q0, q1, q2, q3, q4, q5]) (rowD (cutR [1] 6)) (rowD (cutR [0, 1] 6)) (rowD x) (rowD (totN p x i).1) (rowD (totN p x i).2) (some (.int (0 + (i : Nat)))) none) m1 = _
      rw [Int.zero_add, b_cons, st, seq_nx, b_nil]
      rfl)
    ⟨rfl, none, rfl⟩
  subst hme he
  have a3 : evalS C nLoop (envN (rowD p) (rowD [q0, q1, q2, q3, q4, q5]) (rowD (cutR [1] 6)) (rowD (cutR [0, 1] 6)) (rowD x) (rowD (totN p x 0).1) (rowD (totN p x 0).2) none none) m' = .nx (envN (rowD p) (rowD [q0, q1, q2, q3, q4, q5]) (rowD (cutR [1] 6)) (rowD (cutR [0, 1] 6)) (rowD x) (rowD (totN p x 6).1) (rowD (totN p x 6).2) o7 none) m' := s_for_of (i_rng1 (k := 6) e_con (by decide)) e
  have pne : p ≠ [] := by rw [ep]; simp
  have xne : x ≠ [] := by rw [ex]; simp
  have x0 : x.getD 0 0 = 0 := by rw [ex]; rfl
  have t15 : C.call 15 [rowD p, rowD x] m' = .ok (rowD (putR p x)) m' := by
    rw [cc]
    exact put_ok (n := 53) hm hp hi wi_ok x0 pne xne (by omega) (by rw [lp]; decide +kernel)
  have a4 := n4_any (C := C) (m := m') (P := rowD p) (Q := rowD [q0, q1, q2, q3, q4, q5]) (O := rowD (cutR [1] 6)) (L := rowD (cutR [0, 1] 6)) (I := rowD x) (T := rowD (totN p x 6).1) (W := rowD (totN p x 6).2) (o7 := o7) (o8 := none) t15 (ne_row (by rw [ep, ex]; exact put_total))
  have i1 : idxD (rowD x) (.int 1) m' = .ok (encQ q1) m' := by
    have := ixr (m := m') (p := x) (k := 1) (by omega)
    have h : x.getD 1 0 = q1 := by rw [ex]; rfl
    rw [h] at this
    exact this
  have a5 : evalS C n5 (envN (rowD p) (rowD [q0, q1, q2, q3, q4, q5]) (rowD (cutR [1] 6)) (rowD (cutR [0, 1] 6)) (rowD x) (rowD (totN p x 6).1) (rowD (totN p x 6).2) o7 none) m' = .nx (envN (rowD p) (rowD [q0, q1, q2, q3, q4, q5]) (rowD (cutR [1] 6)) (rowD (cutR [0, 1] 6)) (rowD x) (rowD (totN p x 6).1) (rowD (totN p x 6).2) o7 none) m' := by
    by_cases hq1 : q1 = 0
    · refine n5_no i1 ?_
      rw [hq1]
      exact ix0
    · have x1 : x.getD 1 0 ≠ 0 := by rw [ex]; exact hq1
      have t16 : C.call 16 [rowD x] m' = .ok (rowD (turnedR x)) m' := by
        rw [cc]
        exact turned_ok (n := 52) hm hi wi_ok x0 x1 (c := 5) (d := 4) rfl (by decide) (by omega) (by omega) (by rw [lx]; decide +kernel)
      have ht := turned_hl hi x1
      rw [lx] at ht
      have lt : (turnedR x).length = 6 := by
        show (turnedL x (x.length - 2)).length = 6
        rw [turnedL_len, lx]
      have tne : turnedR x ≠ [] := fun z => by rw [z] at lt; simp at lt
      have tw : wOks (turnedW wi 6) = true := by decide +kernel
      have te0 : (turnedR x).getD 0 0 = 0 := by
        have h := ht 0
        exact h
      have p1 : C.call 15 [rowD x, rowD (turnedR x)] m' = .ok (rowD (putR x (turnedR x))) m' := by
        rw [cc]
        exact put_ok (n := 53) hm hi ht tw te0 xne tne (by omega) (by rw [lx]; decide +kernel)
      have p2 : C.call 15 [rowD (turnedR x), rowD x] m' = .ok (rowD (putR (turnedR x) x)) m' := by
        rw [cc]
        exact put_ok (n := 53) hm ht hi wi_ok x0 tne xne (by omega) (by rw [lt]; decide +kernel)
      exact n5_any (a := q1.num) i1 ix0 (fun z => hq1 (Rat.num_eq_zero.mp z)) t16 p1 (ne_row (by rw [ex]; exact put_turned hq1)) p2 (ne_row (by rw [ex]; exact turned_put hq1))
  have t17 : C.call 17 [rowD x] m' = .ok (rowD (expR x)) m' := by
    rw [cc]
    exact exp_ok (n := 54) hm hi wi_ok x0 xne (by omega) (by rw [lx]; decide +kernel)
  have a6 := n6_any (C := C) (m := m') (P := rowD p) (Q := rowD [q0, q1, q2, q3, q4, q5]) (O := rowD (cutR [1] 6)) (L := rowD (cutR [0, 1] 6)) (I := rowD x) (T := rowD (totN p x 6).1) (W := rowD (totN p x 6).2) (o7 := o7) (o8 := none) t17
  have he := exp_hl hi
  rw [lx] at he
  have le : (expR x).length = 6 := by
    show (expL x (x.length - 1)).length = 6
    rw [expL_len, lx]
  have ew : wOks (expW wi 6) = true := by decide +kernel
  have t13 : C.call 13 [rowD (expR x)] m' = .ok (rowD (slopeR (expR x))) m' := by
    rw [cc]
    exact slope_ok (n := 54) hm he (by omega) ew (by rw [le]; decide +kernel)
  have t13b : C.call 13 [rowD x] m' = .ok (rowD (slopeR x)) m' := by
    rw [cc]
    exact slope_ok (n := 54) hm hi (by omega) wi_ok (by rw [lx]; decide +kernel)
  have t7b : C.call 7 [rowD (slopeR x), .int 6] m' = .ok (rowD (cutR (slopeR x) 6)) m' := by
    rw [cc]
    exact cut_ok (n := 57) hm (slopeR x) (N := 6) (by decide)
  have hs := slope_hl hi
  rw [lx] at hs
  have t11 : C.call 11 [rowD (cutR (slopeR x) 6), rowD (expR x)] m' = .ok (rowD (prodR (cutR (slopeR x) 6) (expR x))) m' := by
    rw [cc]
    exact prod_ok (n := 54) hm (cut_hl hs 6) he (by decide +kernel) ew (by rw [cutR_len, le]; exact Nat.le_refl _) (by rw [cutR_len]; decide) (by rw [cutR_len]; decide +kernel)
  have e0 : (expR x).getD 0 0 = 1 := by rw [ex, exp_poly]; rfl
  have t18 : C.call 18 [rowD (expR x)] m' = .ok (rowD (logR (expR x))) m' := by
    rw [cc]
    exact log_ok (n := 53) hm he ew e0 (c := 0) (d := 0) rfl (by decide) (by omega) (by rw [le]; decide +kernel)
  have a7 := n7_any (C := C) (m := m') (P := rowD p) (Q := rowD [q0, q1, q2, q3, q4, q5]) (O := rowD (cutR [1] 6)) (L := rowD (cutR [0, 1] 6)) (I := rowD x) (T := rowD (totN p x 6).1) (W := rowD (totN p x 6).2) (o7 := o7) (Y := .non) t13 t13b t7b t11 (by
      rw [← List.map_take]
      exact ne_row (by rw [ex]; exact slope_exp)) t18 (ne_row (by rw [ex]; exact log_exp))
  show finF m'.length (evalB C ir__law_inner [some (rowD p), some (rowD [q0, q1, q2, q3, q4, q5]), some (rowD (cutR [1] 6)), some (rowD (cutR [0, 1] 6)), none, none, none, none, none] m') = _
  rw [ir_inner_eq, b_cons, a1, seq_nx, b_cons, a2, seq_nx, b_cons, a3, seq_nx, b_cons, a4, seq_nx, b_cons, a5, seq_nx, b_cons, a6, seq_nx, b_cons, a7, seq_nx]
  simp only [fin_rt, fin_nx, fin_exn, seq_nx, seq_rt, seq_exn, seq_bk, seq_ct, bind_ok, bind_exn, out_ok, out_exn, tst_ok, tst_exn, gc_ok_, gc_exn, gcM_same, asB_bl, selB_t, selB_f, selE_t, selE_f, rdV_some, stT_some, e_var, e_con, e_glo, e_nop, t_bin, t_neg, t_not, t_cmp, t_cmp2, cmp2T_t, cmp2T_f, t_and, t_or, t_if, t_idx, t_tup, t_lst, t_call, t_blt, t_mth, mthT_t, es_nil, ts_cons, b_nil, tb_cons, ts_asg, ts_expr, ts_if, ts_ret, s_rais, seqT_nx, seqT_rt, seqT_exn, seqT_bk, seqT_ct, bindT_ok, bindT_exn, outT_ok, outT_exn, tstT_ok, tstT_exn, asBT_bl, c_eqI, c_neI, c_ltI, c_leI, c_gtI, c_geI, o_addI, o_subI, n_I, abs_N, ix_tup, lift_some, at0, at1, at2, at3, asT_var, asT_tup, asTs_nil, asTs_cons, ctl_call, List.getElem?_cons_zero, List.getElem?_cons_succ, List.set_cons_zero, List.set_cons_succ, List.length_cons, List.length_nil, List.map_cons, List.map_nil, List.cons_append, List.nil_append, List.replicate_succ, List.replicate_zero, Nat.reduceAdd, Nat.reduceSub, Nat.reduceLT, Nat.reduceLeDiff, sz, Option.bind_some, Option.bind_none, Option.map_some, Bool.false_eq_true, if_true, if_false, reduceIte, Nat.zero_add, startE, Bool.not_true, Bool.not_false, decide_true, decide_false]
end Dat.K16

/-! P16b -/
set_option maxRecDepth 100000
set_option maxHeartbeats 1000000
set_option linter.all false
/-! P16b: the law's powers. -/
namespace Dat.K16
open PySem L2
theorem clo_app {E i t t2 : Nat} {m m1 m2 ext : Mem} (h1 : At E i t m m1) (h2 : At E i t2 m m2) (hc : Clo (m1 ++ ext)) : Clo (m2 ++ ext) := by
  obtain ⟨hi, a, b, c, rfl, _⟩ := h1
  obtain ⟨_, a2, b2, c2, rfl, _⟩ := h2
  have := hc.set (i := i) (a := a2) (b := b2) (z := c2)
  rw [List.set_append_left _ _ (by rw [List.length_set]; exact hi), List.set_set] at this
  exact this
def w1 : IS := .asg (.var 2) (.bin .Add (.tup [(.tup [(.con (.int 1)), (.con (.int 1))])]) (.slc true false (.var 1) (.con (.int 1)) .nop))
def w2 : IS := .asg (.tup [(.var 3), (.var 4)]) (.tup [(.call 27 [(.var 0)]), (.call 27 [(.var 0)])])
def w3 : IS := .ifS (.cmp .NotEq (.call 17 [(.call 18 [(.var 2)])]) (.var 2)) no []
def w4 : IS := .ifS (.cmp .NotEq (.call 11 [(.call 19 [(.var 2), (.var 3)]), (.call 19 [(.var 2), (.var 4)])]) (.call 19 [(.var 2), (.call 2 [(.var 3), (.var 4)])])) no []
def w5 : IS := .ifS (.cmp .NotEq (.call 11 [(.call 20 [(.var 2)]), (.call 20 [(.var 2)])]) (.var 2)) no []
def w6 : IS := .ifS (.cmp .NotEq (.call 19 [(.var 2), (.tup [(.con (.int 2)), (.con (.int 1))])]) (.call 11 [(.var 2), (.var 2)])) no []
theorem ir_powers_eq : ir__law_powers = [w1, w2, w3, w4, w5, w6, (.ret (.con (.bl true)))] := rfl
def envW (i : Nat) (P S A B : D) : EnvD := [some (.ref i), some P, some S, some A, some B]
section
variable {C : Ctl} {m : Mem} {P S A B : D} {i : Nat}
theorem w3_any {X Y : D} (t1 : C.call 18 [S] m = .ok X m) (t2 : C.call 17 [X] m = .ok Y m) (e : cmpD .NotEq Y S m = .ok (.bl false) m) : evalS C w3 (envW i P S A B) m = .nx (envW i P S A B) m := by
  simp only [fin_rt, fin_nx, fin_exn, seq_nx, seq_rt, seq_exn, seq_bk, seq_ct, bind_ok, bind_exn, out_ok, out_exn, tst_ok, tst_exn, gc_ok_, gc_exn, gcM_same, asB_bl, selB_t, selB_f, selE_t, selE_f, rdV_some, stT_some, e_var, e_con, e_glo, e_nop, t_bin, t_neg, t_not, t_cmp, t_cmp2, cmp2T_t, cmp2T_f, t_and, t_or, t_if, t_idx, t_tup, t_lst, t_call, t_blt, t_mth, mthT_t, es_nil, ts_cons, b_nil, tb_cons, ts_asg, ts_expr, ts_if, ts_ret, s_rais, seqT_nx, seqT_rt, seqT_exn, seqT_bk, seqT_ct, bindT_ok, bindT_exn, outT_ok, outT_exn, tstT_ok, tstT_exn, asBT_bl, c_eqI, c_neI, c_ltI, c_leI, c_gtI, c_geI, o_addI, o_subI, n_I, abs_N, ix_tup, lift_some, at0, at1, at2, at3, asT_var, asT_tup, asTs_nil, asTs_cons, ctl_call, List.getElem?_cons_zero, List.getElem?_cons_succ, List.set_cons_zero, List.set_cons_succ, List.length_cons, List.length_nil, List.map_cons, List.map_nil, List.cons_append, List.nil_append, List.replicate_succ, List.replicate_zero, Nat.reduceAdd, Nat.reduceSub, Nat.reduceLT, Nat.reduceLeDiff, sz, Option.bind_some, Option.bind_none, Option.map_some, Bool.false_eq_true, if_true, if_false, reduceIte, Nat.zero_add, startE, Bool.not_true, Bool.not_false, decide_true, decide_false, w3, no, envW, t1, t2, e]
theorem w4_any {X Y Z s V : D} (t1 : C.call 19 [S, A] m = .ok X m) (t2 : C.call 19 [S, B] m = .ok Y m) (t3 : C.call 11 [X, Y] m = .ok Z m) (t4 : C.call 2 [A, B] m = .ok s m) (t5 : C.call 19 [S, s] m = .ok V m) (e : cmpD .NotEq Z V m = .ok (.bl false) m) : evalS C w4 (envW i P S A B) m = .nx (envW i P S A B) m := by
  simp only [fin_rt, fin_nx, fin_exn, seq_nx, seq_rt, seq_exn, seq_bk, seq_ct, bind_ok, bind_exn, out_ok, out_exn, tst_ok, tst_exn, gc_ok_, gc_exn, gcM_same, asB_bl, selB_t, selB_f, selE_t, selE_f, rdV_some, stT_some, e_var, e_con, e_glo, e_nop, t_bin, t_neg, t_not, t_cmp, t_cmp2, cmp2T_t, cmp2T_f, t_and, t_or, t_if, t_idx, t_tup, t_lst, t_call, t_blt, t_mth, mthT_t, es_nil, ts_cons, b_nil, tb_cons, ts_asg, ts_expr, ts_if, ts_ret, s_rais, seqT_nx, seqT_rt, seqT_exn, seqT_bk, seqT_ct, bindT_ok, bindT_exn, outT_ok, outT_exn, tstT_ok, tstT_exn, asBT_bl, c_eqI, c_neI, c_ltI, c_leI, c_gtI, c_geI, o_addI, o_subI, n_I, abs_N, ix_tup, lift_some, at0, at1, at2, at3, asT_var, asT_tup, asTs_nil, asTs_cons, ctl_call, List.getElem?_cons_zero, List.getElem?_cons_succ, List.set_cons_zero, List.set_cons_succ, List.length_cons, List.length_nil, List.map_cons, List.map_nil, List.cons_append, List.nil_append, List.replicate_succ, List.replicate_zero, Nat.reduceAdd, Nat.reduceSub, Nat.reduceLT, Nat.reduceLeDiff, sz, Option.bind_some, Option.bind_none, Option.map_some, Bool.false_eq_true, if_true, if_false, reduceIte, Nat.zero_add, startE, Bool.not_true, Bool.not_false, decide_true, decide_false, w4, no, envW, t1, t2, t3, t4, t5, e]
theorem w5_any {X Z : D} (t1 : C.call 20 [S] m = .ok X m) (t3 : C.call 11 [X, X] m = .ok Z m) (e : cmpD .NotEq Z S m = .ok (.bl false) m) : evalS C w5 (envW i P S A B) m = .nx (envW i P S A B) m := by
  simp only [fin_rt, fin_nx, fin_exn, seq_nx, seq_rt, seq_exn, seq_bk, seq_ct, bind_ok, bind_exn, out_ok, out_exn, tst_ok, tst_exn, gc_ok_, gc_exn, gcM_same, asB_bl, selB_t, selB_f, selE_t, selE_f, rdV_some, stT_some, e_var, e_con, e_glo, e_nop, t_bin, t_neg, t_not, t_cmp, t_cmp2, cmp2T_t, cmp2T_f, t_and, t_or, t_if, t_idx, t_tup, t_lst, t_call, t_blt, t_mth, mthT_t, es_nil, ts_cons, b_nil, tb_cons, ts_asg, ts_expr, ts_if, ts_ret, s_rais, seqT_nx, seqT_rt, seqT_exn, seqT_bk, seqT_ct, bindT_ok, bindT_exn, outT_ok, outT_exn, tstT_ok, tstT_exn, asBT_bl, c_eqI, c_neI, c_ltI, c_leI, c_gtI, c_geI, o_addI, o_subI, n_I, abs_N, ix_tup, lift_some, at0, at1, at2, at3, asT_var, asT_tup, asTs_nil, asTs_cons, ctl_call, List.getElem?_cons_zero, List.getElem?_cons_succ, List.set_cons_zero, List.set_cons_succ, List.length_cons, List.length_nil, List.map_cons, List.map_nil, List.cons_append, List.nil_append, List.replicate_succ, List.replicate_zero, Nat.reduceAdd, Nat.reduceSub, Nat.reduceLT, Nat.reduceLeDiff, sz, Option.bind_some, Option.bind_none, Option.map_some, Bool.false_eq_true, if_true, if_false, reduceIte, Nat.zero_add, startE, Bool.not_true, Bool.not_false, decide_true, decide_false, w5, no, envW, t1, t3, e]
theorem w6_any {X Z : D} (t1 : C.call 19 [S, .tup [.int 2, .int 1]] m = .ok X m) (t3 : C.call 11 [S, S] m = .ok Z m) (e : cmpD .NotEq X Z m = .ok (.bl false) m) : evalS C w6 (envW i P S A B) m = .nx (envW i P S A B) m := by
  simp only [fin_rt, fin_nx, fin_exn, seq_nx, seq_rt, seq_exn, seq_bk, seq_ct, bind_ok, bind_exn, out_ok, out_exn, tst_ok, tst_exn, gc_ok_, gc_exn, gcM_same, asB_bl, selB_t, selB_f, selE_t, selE_f, rdV_some, stT_some, e_var, e_con, e_glo, e_nop, t_bin, t_neg, t_not, t_cmp, t_cmp2, cmp2T_t, cmp2T_f, t_and, t_or, t_if, t_idx, t_tup, t_lst, t_call, t_blt, t_mth, mthT_t, es_nil, ts_cons, b_nil, tb_cons, ts_asg, ts_expr, ts_if, ts_ret, s_rais, seqT_nx, seqT_rt, seqT_exn, seqT_bk, seqT_ct, bindT_ok, bindT_exn, outT_ok, outT_exn, tstT_ok, tstT_exn, asBT_bl, c_eqI, c_neI, c_ltI, c_leI, c_gtI, c_geI, o_addI, o_subI, n_I, abs_N, ix_tup, lift_some, at0, at1, at2, at3, asT_var, asT_tup, asTs_nil, asTs_cons, ctl_call, List.getElem?_cons_zero, List.getElem?_cons_succ, List.set_cons_zero, List.set_cons_succ, List.length_cons, List.length_nil, List.map_cons, List.map_nil, List.cons_append, List.nil_append, List.replicate_succ, List.replicate_zero, Nat.reduceAdd, Nat.reduceSub, Nat.reduceLT, Nat.reduceLeDiff, sz, Option.bind_some, Option.bind_none, Option.map_some, Bool.false_eq_true, if_true, if_false, reduceIte, Nat.zero_add, startE, Bool.not_true, Bool.not_false, decide_true, decide_false, w6, no, envW, t1, t3, e]
end
theorem powers_ok {E i t : Nat} {m m1 ext : Mem} (hE : 31 ≤ E) (hE2 : E ≤ 134217700) (h : At E i t m m1) (ht : t < 1000) (hc : Clo (m1 ++ ext)) {p0 p1 p2 p3 p4 p5 : Rat} (hp : HL wp [p0, p1, p2, p3, p4, p5]) :
    ∃ m2, At E i (t + 4) m m2 ∧ runF LL.prog 59 29 [.ref i, rowD [p0, p1, p2, p3, p4, p5]] (m1 ++ ext) = .ok (.bl true) (m2 ++ ext) := by
  have hf : LL.prog.fns[29]? = some ⟨2, 5, ir__law_powers⟩ := fnA (d := d__law_powers) rfl
  obtain ⟨a, m2, ha, h2, c1⟩ := part_at (n := 56) f_part f_gcd f_roll rfl hE hE2 h (by omega) ext
  obtain ⟨b, m3, hb, h3, c2⟩ := part_at (n := 56) f_part f_gcd f_roll rfl hE hE2 h2 (by omega) ext
  refine ⟨m3, h3, ?_⟩
  have hm : Clo (m3 ++ ext) := clo_app h h3 hc
  have g : ∀ a : D, gcM (m1 ++ ext).length a (m3 ++ ext) = m3 ++ ext := fun a => by
    rw [show (m1 ++ ext).length = (m3 ++ ext).length by simp [h.len, h3.len], gcM_same]
  rw [runF_at (n := 58) hf rfl]
  obtain ⟨C, hC⟩ : ∃ C, C = LL.prog.ctl (runF LL.prog 58) (runF LL.prog (58 - 2)) 58 := ⟨_, rfl⟩
  have cc : C.call = runF LL.prog 58 := by rw [hC]; rfl
  rw [← hC]
  have hs := hl_s hp
  obtain ⟨s, es⟩ : ∃ s, s = [1, p1, p2, p3, p4, p5] := ⟨_, rfl⟩
  have ls : s.length = 6 := by rw [es]; rfl
  rw [← es] at hs
  have s0 : s.getD 0 0 = 1 := by rw [es]; rfl
  have sne : s ≠ [] := by rw [es]; simp
  have a1 : evalS C w1 [some (.ref i), some (rowD [p0, p1, p2, p3, p4, p5]), none, none, none] (m1 ++ ext) = .nx [some (.ref i), some (rowD [p0, p1, p2, p3, p4, p5]), some (rowD s), none, none] (m1 ++ ext) := by
    have hh := head_tail (C := C) (env := [some (.ref i), some (rowD [p0, p1, p2, p3, p4, p5]), none, none, none]) (m := m1 ++ ext) (v := 1) (e := .tup [(.con (.int 1)), (.con (.int 1))]) (r := [p0, p1, p2, p3, p4, p5]) (x := 1) rfl (by
      rw [enc1]
      simp only [fin_rt, fin_nx, fin_exn, seq_nx, seq_rt, seq_exn, seq_bk, seq_ct, bind_ok, bind_exn, out_ok, out_exn, tst_ok, tst_exn, gc_ok_, gc_exn, gcM_same, asB_bl, selB_t, selB_f, selE_t, selE_f, rdV_some, stT_some, e_var, e_con, e_glo, e_nop, t_bin, t_neg, t_not, t_cmp, t_cmp2, cmp2T_t, cmp2T_f, t_and, t_or, t_if, t_idx, t_tup, t_lst, t_call, t_blt, t_mth, mthT_t, es_nil, ts_cons, b_nil, tb_cons, ts_asg, ts_expr, ts_if, ts_ret, s_rais, seqT_nx, seqT_rt, seqT_exn, seqT_bk, seqT_ct, bindT_ok, bindT_exn, outT_ok, outT_exn, tstT_ok, tstT_exn, asBT_bl, c_eqI, c_neI, c_ltI, c_leI, c_gtI, c_geI, o_addI, o_subI, n_I, abs_N, ix_tup, lift_some, at0, at1, at2, at3, asT_var, asT_tup, asTs_nil, asTs_cons, ctl_call, List.getElem?_cons_zero, List.getElem?_cons_succ, List.set_cons_zero, List.set_cons_succ, List.length_cons, List.length_nil, List.map_cons, List.map_nil, List.cons_append, List.nil_append, List.replicate_succ, List.replicate_zero, Nat.reduceAdd, Nat.reduceSub, Nat.reduceLT, Nat.reduceLeDiff, sz, Option.bind_some, Option.bind_none, Option.map_some, Bool.false_eq_true, if_true, if_false, reduceIte, Nat.zero_add, startE, Bool.not_true, Bool.not_false, decide_true, decide_false]) (by simp)
    unfold w1
    rw [s_asg, hh, gc_ok_, gcM_same, out_ok, es]
    rfl
  have a2 : evalS C w2 [some (.ref i), some (rowD [p0, p1, p2, p3, p4, p5]), some (rowD s), none, none] (m1 ++ ext) = .nx (envW i (rowD [p0, p1, p2, p3, p4, p5]) (rowD s) (encQ a) (encQ b)) (m3 ++ ext) := by
    have d1 : C.call 27 [.ref i] (m1 ++ ext) = .ok (encQ a) (m2 ++ ext) := by rw [cc]; exact c1
    have d2 : C.call 27 [.ref i] (m2 ++ ext) = .ok (encQ b) (m3 ++ ext) := by rw [cc]; exact c2
    have g' := g (.tup [encQ a, encQ b])
    generalize encQ a = A at *
    generalize encQ b = B at *
    generalize rowD s = S at *
    simp only [fin_rt, fin_nx, fin_exn, seq_nx, seq_rt, seq_exn, seq_bk, seq_ct, bind_ok, bind_exn, out_ok, out_exn, tst_ok, tst_exn, gc_ok_, gc_exn, gcM_same, asB_bl, selB_t, selB_f, selE_t, selE_f, rdV_some, stT_some, e_var, e_con, e_glo, e_nop, t_bin, t_neg, t_not, t_cmp, t_cmp2, cmp2T_t, cmp2T_f, t_and, t_or, t_if, t_idx, t_tup, t_lst, t_call, t_blt, t_mth, mthT_t, es_nil, ts_cons, b_nil, tb_cons, ts_asg, ts_expr, ts_if, ts_ret, s_rais, seqT_nx, seqT_rt, seqT_exn, seqT_bk, seqT_ct, bindT_ok, bindT_exn, outT_ok, outT_exn, tstT_ok, tstT_exn, asBT_bl, c_eqI, c_neI, c_ltI, c_leI, c_gtI, c_geI, o_addI, o_subI, n_I, abs_N, ix_tup, lift_some, at0, at1, at2, at3, asT_var, asT_tup, asTs_nil, asTs_cons, ctl_call, List.getElem?_cons_zero, List.getElem?_cons_succ, List.set_cons_zero, List.set_cons_succ, List.length_cons, List.length_nil, List.map_cons, List.map_nil, List.cons_append, List.nil_append, List.replicate_succ, List.replicate_zero, Nat.reduceAdd, Nat.reduceSub, Nat.reduceLT, Nat.reduceLeDiff, sz, Option.bind_some, Option.bind_none, Option.map_some, Bool.false_eq_true, if_true, if_false, reduceIte, Nat.zero_add, startE, Bool.not_true, Bool.not_false, decide_true, decide_false, w2, envW, d1, d2, g']
  have t18 : C.call 18 [rowD s] (m3 ++ ext) = .ok (rowD (logR s)) (m3 ++ ext) := by
    rw [cc]
    exact log_ok (n := 53) hm hs ws_ok s0 (c := 0) (d := 0) rfl (by decide) (by omega) (by rw [ls]; decide +kernel)
  have hl := log_hl hs (by rw [s0]; decide)
  rw [ls] at hl
  have ll := logR_len sne
  have lne : logR s ≠ [] := fun z => by rw [z, ls] at ll; simp at ll
  have t17 : C.call 17 [rowD (logR s)] (m3 ++ ext) = .ok (rowD (expR (logR s))) (m3 ++ ext) := by
    rw [cc]
    exact exp_ok (n := 54) hm hl (by decide +kernel) logR_0 lne (by omega) (by rw [ll, ls]; decide +kernel)
  have b3 := w3_any (C := C) (m := m3 ++ ext) (i := i) (P := rowD [p0, p1, p2, p3, p4, p5]) (A := encQ a) (B := encQ b) t18 t17 (ne_row (by rw [es]; exact exp_log))
  have ok54 : wOk (some (5, 4)) = true := by decide
  have pw : ∀ (x : Rat) (w : Wt), HW w x → wOk w = true → powO ws w 6 = true → C.call 19 [rowD s, encQ x] (m3 ++ ext) = .ok (rowD (powR s x)) (m3 ++ ext) := fun x w hx hw ho => by
    rw [cc]
    exact pow_ok (n := 52) hm hs ws_ok s0 (c := 0) (d := 0) rfl (by decide) (by omega) hx hw (by rw [ls]; exact ho)
  have plen : ∀ x : Rat, (powR s x).length = 6 := fun x => by
    show (expL (scaledR (logR s) x) ((scaledR (logR s) x).length - 1)).length = 6
    rw [expL_len, scaledR_len, ll, ls]
  have pr : ∀ (x y : Rat) (w v : Wt), HW w x → HW v y → wOks (powW ws w 6) = true → wOks (powW ws v 6) = true → wOks (prodW (powW ws w 6) (powW ws v 6) 6) = true → C.call 11 [rowD (powR s x), rowD (powR s y)] (m3 ++ ext) = .ok (rowD (prodR (powR s x) (powR s y))) (m3 ++ ext) := fun x y w v hx hy o1 o2 o3 => by
    have h1 := pow_hl hs s0 hx
    have h2 := pow_hl hs s0 hy
    rw [ls] at h1 h2
    rw [cc]
    exact prod_ok (n := 54) hm h1 h2 o1 o2 (by rw [plen, plen]; exact Nat.le_refl _) (by rw [plen]; decide) (by rw [plen]; exact o3)
  have t2 : C.call 2 [encQ a, encQ b] (m3 ++ ext) = .ok (encQ (a + b)) (m3 ++ ext) := by
    rw [cc]
    exact add_w (n := 55) parts f_add ha hb (by decide)
  have b4 := w4_any (C := C) (m := m3 ++ ext) (i := i) (P := rowD [p0, p1, p2, p3, p4, p5]) (pw a _ ha ok54 (by decide +kernel)) (pw b _ hb ok54 (by decide +kernel)) (pr a b _ _ ha hb (by decide +kernel) (by decide +kernel) (by decide +kernel)) t2 (pw (a + b) _ (ha.add hb) (by decide) (by decide +kernel)) (ne_row (by rw [es]; exact pow_add))
  have hh : HW (some (0, 1)) (1 / 2 : Rat) := ⟨by decide +kernel, by decide +kernel⟩
  have t20 : C.call 20 [rowD s] (m3 ++ ext) = .ok (rowD (powR s (1 / 2))) (m3 ++ ext) := by
    rw [cc]
    exact root_ok (n := 51) hm hs ws_ok s0 (c := 0) (d := 0) rfl (by decide) (by omega) (by rw [ls]; decide +kernel)
  have b5 := w5_any (C := C) (m := m3 ++ ext) (i := i) (P := rowD [p0, p1, p2, p3, p4, p5]) (A := encQ a) (B := encQ b) t20 (pr (1 / 2) (1 / 2) _ _ hh hh (by decide +kernel) (by decide +kernel) (by decide +kernel)) (ne_row (by rw [es]; exact root_root))
  have h2' : HW (some (1, 0)) (2 : Rat) := ⟨by decide +kernel, by decide +kernel⟩
  have t19 := pw 2 _ h2' (by decide) (by decide +kernel)
  have e2 : encQ 2 = .tup [.int 2, .int 1] := by
    have e1 : (2 : Rat).num = 2 := by decide +kernel
    have e2 : (2 : Rat).den = 1 := by decide +kernel
    unfold encQ
    rw [e1, e2]
    rfl
  rw [e2] at t19
  have t11 : C.call 11 [rowD s, rowD s] (m3 ++ ext) = .ok (rowD (prodR s s)) (m3 ++ ext) := by
    rw [cc]
    exact prod_ok (n := 54) hm hs hs ws_ok ws_ok (Nat.le_refl _) (by omega) (by rw [ls]; decide +kernel)
  have b6 := w6_any (C := C) (m := m3 ++ ext) (i := i) (P := rowD [p0, p1, p2, p3, p4, p5]) (A := encQ a) (B := encQ b) t19 t11 (ne_row (by rw [es]; exact pow_two))
  have gB := g (.bl true)
  show finF (m1 ++ ext).length (evalB C ir__law_powers [some (.ref i), some (rowD [p0, p1, p2, p3, p4, p5]), none, none, none] (m1 ++ ext)) = _
  rw [ir_powers_eq, b_cons, a1, seq_nx, b_cons, a2, seq_nx, b_cons, b3, seq_nx, b_cons, b4, seq_nx, b_cons, b5, seq_nx, b_cons, b6, seq_nx]
  simp only [fin_rt, fin_nx, fin_exn, seq_nx, seq_rt, seq_exn, seq_bk, seq_ct, bind_ok, bind_exn, out_ok, out_exn, tst_ok, tst_exn, gc_ok_, gc_exn, gcM_same, asB_bl, selB_t, selB_f, selE_t, selE_f, rdV_some, stT_some, e_var, e_con, e_glo, e_nop, t_bin, t_neg, t_not, t_cmp, t_cmp2, cmp2T_t, cmp2T_f, t_and, t_or, t_if, t_idx, t_tup, t_lst, t_call, t_blt, t_mth, mthT_t, es_nil, ts_cons, b_nil, tb_cons, ts_asg, ts_expr, ts_if, ts_ret, s_rais, seqT_nx, seqT_rt, seqT_exn, seqT_bk, seqT_ct, bindT_ok, bindT_exn, outT_ok, outT_exn, tstT_ok, tstT_exn, asBT_bl, c_eqI, c_neI, c_ltI, c_leI, c_gtI, c_geI, o_addI, o_subI, n_I, abs_N, ix_tup, lift_some, at0, at1, at2, at3, asT_var, asT_tup, asTs_nil, asTs_cons, ctl_call, List.getElem?_cons_zero, List.getElem?_cons_succ, List.set_cons_zero, List.set_cons_succ, List.length_cons, List.length_nil, List.map_cons, List.map_nil, List.cons_append, List.nil_append, List.replicate_succ, List.replicate_zero, Nat.reduceAdd, Nat.reduceSub, Nat.reduceLT, Nat.reduceLeDiff, sz, Option.bind_some, Option.bind_none, Option.map_some, Bool.false_eq_true, if_true, if_false, reduceIte, Nat.zero_add, startE, Bool.not_true, Bool.not_false, decide_true, decide_false, gB]
end Dat.K16

/-! Q16 -/
set_option maxRecDepth 100000
set_option maxHeartbeats 1000000
set_option linter.all false
/-! Q16: the law's body. -/
namespace Dat.K16
open PySem L2
abbrev CC : Ctl := LL.prog.ctl (runF LL.prog 59) (runF LL.prog (59 - 2)) 59
/-- parts are drawn -/
theorem comp_parts {E i : Nat} (hE : 31 ≤ E) (hE2 : E ≤ 134217700) {C : Ctl} (cc : C.call = runF LL.prog 59) {env : EnvD} (h1 : env[1]? = some (some (.ref i))) (hl : 4 < env.length) {m : Mem} (ext : Mem) :
    ∀ (l : List D) (t : Nat) (m1 : Mem), At E i t m m1 → t + 2 * l.length < 1000 →
      ∃ (vs : List Rat) (m2 : Mem), vs.length = l.length ∧ (∀ k, HW (some (5, 4)) (vs.getD k 0)) ∧ At E i (t + 2 * l.length) m m2 ∧
        compL none (compB C (.var 4) (.con (.bl true)) (.call 27 [(.var 1)]) [4] env) l (m1 ++ ext) = .ok (vs.map encQ) (m2 ++ ext)
  | [], t, m1, h, _ => ⟨[], m1, rfl, fun k => HW.zero, by simpa using h, by simp [compL, chkW]⟩
  | d :: l, t, m1, h, ht => by
    simp only [List.length_cons] at ht
    obtain ⟨q, m2, r1, r2, r3⟩ := part_at (n := 57) f_part f_gcd f_roll rfl hE hE2 h (by omega) ext
    obtain ⟨vs, m3, v1, v2, v3, v4⟩ := comp_parts hE hE2 cc h1 hl ext l (t + 2) m2 r2 (by omega)
    refine ⟨q :: vs, m3, by simp [v1], fun k => match k with
      | 0 => r1
      | k + 1 => v2 k, ?_, ?_⟩
    · have e : t + 2 * (d :: l).length = t + 2 + 2 * l.length := by simp; omega
      rw [e]; exact v3
    · have e1 : asgT (m1 ++ ext) (.var 4) d (wipeE env [4]) = some ((env.set 4 none).set 4 (some d)) := by
        simp only [wipeE, asgT, List.length_set]
        rw [if_pos hl]
      have g1 : ((env.set 4 none).set 4 (some d))[1]? = some (some (.ref i)) := by
        rw [List.getElem?_set_ne (by decide), List.getElem?_set_ne (by decide), h1]
      have c27 : C.call 27 [.ref i] (m1 ++ ext) = .ok (encQ q) (m2 ++ ext) := by rw [cc]; exact r3
      have e2 : evalE (.call 27 [(.var 1)]) C ((env.set 4 none).set 4 (some d)) (m1 ++ ext) = .ok (encQ q) (m2 ++ ext) := by
        generalize encQ q = Y at *
        simp only [fin_rt, fin_nx, fin_exn, seq_nx, seq_rt, seq_exn, seq_bk, seq_ct, bind_ok, bind_exn, out_ok, out_exn, tst_ok, tst_exn, gc_ok_, gc_exn, gcM_same, asB_bl, selB_t, selB_f, selE_t, selE_f, rdV_some, stT_some, e_var, e_con, e_glo, e_nop, t_bin, t_neg, t_not, t_cmp, t_cmp2, cmp2T_t, cmp2T_f, t_and, t_or, t_if, t_idx, t_tup, t_lst, t_call, t_blt, t_mth, mthT_t, es_nil, ts_cons, b_nil, tb_cons, ts_asg, ts_expr, ts_if, ts_ret, s_rais, seqT_nx, seqT_rt, seqT_exn, seqT_bk, seqT_ct, bindT_ok, bindT_exn, outT_ok, outT_exn, tstT_ok, tstT_exn, asBT_bl, c_eqI, c_neI, c_ltI, c_leI, c_gtI, c_geI, o_addI, o_subI, n_I, abs_N, ix_tup, lift_some, at0, at1, at2, at3, asT_var, asT_tup, asTs_nil, asTs_cons, ctl_call, List.getElem?_cons_zero, List.getElem?_cons_succ, List.set_cons_zero, List.set_cons_succ, List.length_cons, List.length_nil, List.map_cons, List.map_nil, List.cons_append, List.nil_append, List.replicate_succ, List.replicate_zero, Nat.reduceAdd, Nat.reduceSub, Nat.reduceLT, Nat.reduceLeDiff, sz, Option.bind_some, Option.bind_none, Option.map_some, Bool.false_eq_true, if_true, if_false, reduceIte, Nat.zero_add, startE, Bool.not_true, Bool.not_false, decide_true, decide_false, g1, c27]
      have e3 : compB C (.var 4) (.con (.bl true)) (.call 27 [(.var 1)]) [4] env d (m1 ++ ext) = .ok (some (encQ q)) (m2 ++ ext) := by
        unfold compB
        simp only [e1, e_con, e2]
      simp only [compL, chkW, if_true, e3, bind_ok, v4, optC, List.map_cons]
theorem six {vs : List Rat} (h : vs.length = 6) : ∃ p0 p1 p2 p3 p4 p5, vs = [p0, p1, p2, p3, p4, p5] := by
  match vs, h with
  | [p0, p1, p2, p3, p4, p5], _ => exact ⟨p0, p1, p2, p3, p4, p5, rfl⟩
theorem hl_wp {vs : List Rat} (h : vs.length = 6) (hv : ∀ k, HW (some (5, 4)) (vs.getD k 0)) : HL wp vs := by
  intro k
  by_cases hk : k < 6
  · have : wp.getD k none = some (5, 4) := match k, hk with
      | 0, _ => rfl
      | 1, _ => rfl
      | 2, _ => rfl
      | 3, _ => rfl
      | 4, _ => rfl
      | 5, _ => rfl
      | k + 6, h => absurd h (by omega)
    rw [this]
    exact hv k
  · have e1 : wp.getD k none = none := by
      unfold wp
      simp [hk]
    have e2 : vs.getD k 0 = 0 := by rw [List.getD_eq_getElem?_getD, List.getElem?_eq_none (by omega)]; rfl
    rw [e1, e2]
    rfl
def xIn1 : IE := .comp (.var 4) (.rng1 [(.con (.int 6))]) (.con (.bl true)) (.call 27 [(.var 1)]) [4]
def xOut1 : IE := .comp (.var 5) (.rng1 [(.con (.int 2))]) (.con (.bl true)) (.blt .tuple [xIn1]) [5]
def envL (i : Nat) (e0 e2 e3 e4 e5 e6 e7 e8 e9 e10 : Option D) : EnvD := [e0, some (.ref i), e2, e3, e4, e5, e6, e7, e8, e9, e10]
theorem r_lit {k : Nat} (hk : k ≤ 1000) {env : EnvD} {m : Mem} : evalI (.rng1 [(.con (.int (k : Int)))]) CC env m = .ok (rngL 0 k, none) m := i_rng1 (k := k) e_con hk
theorem tuple_parts {E i : Nat} (hE : 31 ≤ E) (hE2 : E ≤ 134217700) {e0 e2 e3 e4 e5 e6 e7 e8 e9 e10 : Option D} {m m1 : Mem} {t : Nat} (h : At E i t m m1) (ht : t < 500) (ext : Mem) :
    ∃ (vs : List Rat) (m2 : Mem), vs.length = 6 ∧ HL wp vs ∧ At E i (t + 12) m m2 ∧ evalE (.blt .tuple [xIn1]) CC (envL i e0 e2 e3 e4 e5 e6 e7 e8 e9 e10) (m1 ++ ext) = .ok (rowD vs) (m2 ++ ext ++ [.lst (vs.map encQ)]) := by
  obtain ⟨vs, m2, v1, v2, v3, v4⟩ := comp_parts (C := CC) hE hE2 rfl (env := envL i e0 e2 e3 e4 e5 e6 e7 e8 e9 e10) rfl (by simp [envL]) ext (rngL 0 6) t m1 h (by simp [rngL]; omega)
  have l6 : (rngL 0 6).length = 6 := by simp [rngL]
  rw [l6] at v1 v3
  refine ⟨vs, m2, v1, hl_wp v1 v2, v3, ?_⟩
  have e1 : evalE xIn1 CC (envL i e0 e2 e3 e4 e5 e6 e7 e8 e9 e10) (m1 ++ ext) = .ok (.ref (m2 ++ ext).length) (m2 ++ ext ++ [.lst (vs.map encQ)]) := by
    unfold xIn1
    have r6 := r_lit (k := 6) (by decide) (env := envL i e0 e2 e3 e4 e5 e6 e7 e8 e9 e10) (m := m1 ++ ext)
    rw [show (((6 : Nat) : Nat) : Int) = 6 from rfl] at r6
    rw [e_comp, r6]
    simp only [bind_ok, v4]
    rw [if_pos (szl (by simp [v1]))]
  have g : bltD .tuple [.ref (m2 ++ ext).length] (m2 ++ ext ++ [Cell.lst (vs.map encQ)]) = .ok (rowD vs) (m2 ++ ext ++ [.lst (vs.map encQ)]) := by
    have : (m2 ++ ext ++ [Cell.lst (vs.map encQ)])[(m2 ++ ext).length]? = some (.lst (vs.map encQ)) := by simp
    simp only [bltD, seqD, this]
    rfl
  rw [e_blt, es_cons, e1, bind_ok, es_nil, bind_ok, bind_ok, g]
theorem clo_more {m : Mem} (hc : Clo m) {l : List D} (hl : D.undrL 0 l = true) : Clo (m ++ [.lst l]) := hc.app (undrL_le (by omega) _ hl)
theorem st1 {E i : Nat} (hE : 31 ≤ E) (hE2 : E ≤ 134217700) {e0 e2 e3 e4 e5 e6 e7 e8 e9 e10 : Option D} {m m1 : Mem} {t : Nat} (h : At E i t m m1) (ht : t < 400) (hc : Clo m) :
    ∃ (p q : List Rat) (m2 : Mem), p.length = 6 ∧ q.length = 6 ∧ HL wp p ∧ HL wp q ∧ At E i (t + 24) m m2 ∧
      evalS CC (.asg (.tup [(.var 2), (.var 3)]) xOut1) (envL i e0 e2 e3 e4 e5 e6 e7 e8 e9 e10) m1 = .nx (envL i e0 (some (rowD p)) (some (rowD q)) e4 e5 e6 e7 e8 e9 e10) (m2 ++ [.lst (p.map encQ), .lst (q.map encQ), .lst [rowD p, rowD q]]) := by
  obtain ⟨p, m2, p1, p2, p3, p4⟩ := tuple_parts hE hE2 (e0 := e0) (e2 := e2) (e3 := e3) (e4 := e4) (e5 := some (.int 0)) (e6 := e6) (e7 := e7) (e8 := e8) (e9 := e9) (e10 := e10) h (by omega) []
  obtain ⟨q, m3, q1, q2, q3, q4⟩ := tuple_parts hE hE2 (e0 := e0) (e2 := e2) (e3 := e3) (e4 := e4) (e5 := some (.int 1)) (e6 := e6) (e7 := e7) (e8 := e8) (e9 := e9) (e10 := e10) p3 (by omega) [.lst (p.map encQ)]
  refine ⟨p, q, m3, p1, q1, p2, q2, q3, ?_⟩
  rw [List.append_nil, List.append_nil] at p4
  have b1 : compB CC (.var 5) (.con (.bl true)) (.blt .tuple [xIn1]) [5] (envL i e0 e2 e3 e4 e5 e6 e7 e8 e9 e10) (.int 0) m1 = .ok (some (rowD p)) (m2 ++ [.lst (p.map encQ)]) := by
    unfold compB
    have a : asgT m1 (.var 5) (.int 0) (wipeE (envL i e0 e2 e3 e4 e5 e6 e7 e8 e9 e10) [5]) = some (envL i e0 e2 e3 e4 (some (.int 0)) e6 e7 e8 e9 e10) := by simp [asgT, wipeE, envL]
    simp only [a, e_con, p4]
  have b2 : compB CC (.var 5) (.con (.bl true)) (.blt .tuple [xIn1]) [5] (envL i e0 e2 e3 e4 e5 e6 e7 e8 e9 e10) (.int 1) (m2 ++ [.lst (p.map encQ)]) = .ok (some (rowD q)) (m3 ++ [.lst (p.map encQ)] ++ [.lst (q.map encQ)]) := by
    unfold compB
    have a : asgT (m2 ++ [.lst (p.map encQ)]) (.var 5) (.int 1) (wipeE (envL i e0 e2 e3 e4 e5 e6 e7 e8 e9 e10) [5]) = some (envL i e0 e2 e3 e4 (some (.int 1)) e6 e7 e8 e9 e10) := by simp [asgT, wipeE, envL]
    simp only [a, e_con, q4]
  have c1 : compL none (compB CC (.var 5) (.con (.bl true)) (.blt .tuple [xIn1]) [5] (envL i e0 e2 e3 e4 e5 e6 e7 e8 e9 e10)) (rngL 0 2) m1 = .ok [rowD p, rowD q] (m3 ++ [.lst (p.map encQ)] ++ [.lst (q.map encQ)]) := by
    have : rngL 0 2 = [.int 0, .int 1] := rfl
    rw [this]
    simp only [compL, chkW, if_true, b1, b2, bind_ok, optC]
    rfl
  have e1 : evalE xOut1 CC (envL i e0 e2 e3 e4 e5 e6 e7 e8 e9 e10) m1 = .ok (.ref (m3.length + 2)) (m3 ++ [.lst (p.map encQ), .lst (q.map encQ), .lst [rowD p, rowD q]]) := by
    unfold xOut1
    have r2 := r_lit (k := 2) (by decide) (env := envL i e0 e2 e3 e4 e5 e6 e7 e8 e9 e10) (m := m1)
    rw [show (((2 : Nat) : Nat) : Int) = 2 from rfl] at r2
    rw [e_comp, r2]
    simp only [bind_ok, c1]
    rw [if_pos (szl (by simp))]
    simp
  have g : gcM m1.length (.ref (m3.length + 2)) (m3 ++ [Cell.lst (p.map encQ), .lst (q.map encQ), .lst [rowD p, rowD q]]) = m3 ++ [.lst (p.map encQ), .lst (q.map encQ), .lst [rowD p, rowD q]] := by
    rw [h.len, ← q3.len]
    exact gcM_new (d := []) (by omega)
  have a : asgT (m3 ++ [Cell.lst (p.map encQ), .lst (q.map encQ), .lst [rowD p, rowD q]]) (.tup [(.var 2), (.var 3)]) (.ref (m3.length + 2)) (envL i e0 e2 e3 e4 e5 e6 e7 e8 e9 e10) = some (envL i e0 (some (rowD p)) (some (rowD q)) e4 e5 e6 e7 e8 e9 e10) := by
    have : (m3 ++ [Cell.lst (p.map encQ), .lst (q.map encQ), .lst [rowD p, rowD q]])[m3.length + 2]? = some (.lst [rowD p, rowD q]) := by simp
    simp [asgT, seqD, this, asgTs, envL]
  rw [s_asg, e1, gc_ok_, g, out_ok, a, stT_some]
/-! ### what is due -/
def y1 : IS := .asg (.tup [(.var 6), (.var 7)]) (.tup [(.call 7 [(.tup [(.tup [(.con (.int 1)), (.con (.int 1))])]), (.con (.int 6))]), (.call 7 [(.tup [(.tup [(.con (.int 0)), (.con (.int 1))]), (.tup [(.con (.int 1)), (.con (.int 1))])]), (.con (.int 6))])])
def y2 : IS := .asg (.var 8) (.lst [])
def yInit : IS := .asg (.var 9) (.tup [(.con (.int 0)), (.con (.int 1))])
def yStp : IS := .asg (.var 9) (.call 2 [(.var 9), (.call 4 [(.idx (.var 2) (.var 10)), (.idx (.var 3) (.bin .Sub (.var 4) (.var 10)))])])
def yIn : IS := .forS (.var 10) (.rng1 [(.bin .Add (.var 4) (.con (.int 1)))]) [yStp]
def yApp : IS := .expr (.mth .append (.var 8) [(.var 9)])
def y3 : IS := .forS (.var 4) (.rng1 [(.con (.int 6))]) [yInit, yIn, yApp]
def envD (i : Nat) (e0 : Option D) (p q : List Rat) (e4 e5 : Option D) (k : Nat) (e9 e10 : Option D) : EnvD := envL i e0 (some (rowD p)) (some (rowD q)) e4 e5 (some (rowD (cutR [1] 6))) (some (rowD (cutR [0, 1] 6))) (some (.ref k)) e9 e10
section
variable {i : Nat} {e0 e4 e5 e6 e7 e8 e9 e10 : Option D} {p q : List Rat} {m : Mem}
theorem st_y1 (hm : Clo m) : evalS CC y1 (envL i e0 (some (rowD p)) (some (rowD q)) e4 e5 e6 e7 e8 e9 e10) m = .nx (envL i e0 (some (rowD p)) (some (rowD q)) e4 e5 (some (rowD (cutR [1] 6))) (some (rowD (cutR [0, 1] 6))) e8 e9 e10) m := by
  have t1 : runF LL.prog 59 7 [.tup [.tup [.int 1, .int 1]], .int 6] m = .ok (rowD (cutR [1] 6)) m := cut_ok (n := 58) hm [1] (N := 6) (by decide)
  have t2 : runF LL.prog 59 7 [.tup [.tup [.int 0, .int 1], .tup [.int 1, .int 1]], .int 6] m = .ok (rowD (cutR [0, 1] 6)) m := cut_ok (n := 58) hm [0, 1] (N := 6) (by decide)
  generalize rowD (cutR [1] 6) = O at *
  generalize rowD (cutR [0, 1] 6) = L at *
  generalize rowD p = P at *
  generalize rowD q = Q at *
  simp only [fin_rt, fin_nx, fin_exn, seq_nx, seq_rt, seq_exn, seq_bk, seq_ct, bind_ok, bind_exn, out_ok, out_exn, tst_ok, tst_exn, gc_ok_, gc_exn, gcM_same, asB_bl, selB_t, selB_f, selE_t, selE_f, rdV_some, stT_some, e_var, e_con, e_glo, e_nop, t_bin, t_neg, t_not, t_cmp, t_cmp2, cmp2T_t, cmp2T_f, t_and, t_or, t_if, t_idx, t_tup, t_lst, t_call, t_blt, t_mth, mthT_t, es_nil, ts_cons, b_nil, tb_cons, ts_asg, ts_expr, ts_if, ts_ret, s_rais, seqT_nx, seqT_rt, seqT_exn, seqT_bk, seqT_ct, bindT_ok, bindT_exn, outT_ok, outT_exn, tstT_ok, tstT_exn, asBT_bl, c_eqI, c_neI, c_ltI, c_leI, c_gtI, c_geI, o_addI, o_subI, n_I, abs_N, ix_tup, lift_some, at0, at1, at2, at3, asT_var, asT_tup, asTs_nil, asTs_cons, ctl_call, List.getElem?_cons_zero, List.getElem?_cons_succ, List.set_cons_zero, List.set_cons_succ, List.length_cons, List.length_nil, List.map_cons, List.map_nil, List.cons_append, List.nil_append, List.replicate_succ, List.replicate_zero, Nat.reduceAdd, Nat.reduceSub, Nat.reduceLT, Nat.reduceLeDiff, sz, Option.bind_some, Option.bind_none, Option.map_some, Bool.false_eq_true, if_true, if_false, reduceIte, Nat.zero_add, startE, Bool.not_true, Bool.not_false, decide_true, decide_false, y1, envL, t1, t2]
theorem st_y2 : evalS CC y2 (envL i e0 (some (rowD p)) (some (rowD q)) e4 e5 (some (rowD (cutR [1] 6))) (some (rowD (cutR [0, 1] 6))) e8 e9 e10) m = .nx (envD i e0 p q e4 e5 m.length e9 e10) (m ++ [.lst []]) := by
  have g : gcM m.length (.ref m.length) (m ++ [Cell.lst []]) = m ++ [.lst []] := gcM_new (d := []) (Nat.le_refl _)
  unfold envD
  generalize rowD (cutR [1] 6) = O at *
  generalize rowD (cutR [0, 1] 6) = L at *
  generalize rowD p = P at *
  generalize rowD q = Q at *
  simp only [fin_rt, fin_nx, fin_exn, seq_nx, seq_rt, seq_exn, seq_bk, seq_ct, bind_ok, bind_exn, out_ok, out_exn, tst_ok, tst_exn, gc_ok_, gc_exn, gcM_same, asB_bl, selB_t, selB_f, selE_t, selE_f, rdV_some, stT_some, e_var, e_con, e_glo, e_nop, t_bin, t_neg, t_not, t_cmp, t_cmp2, cmp2T_t, cmp2T_f, t_and, t_or, t_if, t_idx, t_tup, t_lst, t_call, t_blt, t_mth, mthT_t, es_nil, ts_cons, b_nil, tb_cons, ts_asg, ts_expr, ts_if, ts_ret, s_rais, seqT_nx, seqT_rt, seqT_exn, seqT_bk, seqT_ct, bindT_ok, bindT_exn, outT_ok, outT_exn, tstT_ok, tstT_exn, asBT_bl, c_eqI, c_neI, c_ltI, c_leI, c_gtI, c_geI, o_addI, o_subI, n_I, abs_N, ix_tup, lift_some, at0, at1, at2, at3, asT_var, asT_tup, asTs_nil, asTs_cons, ctl_call, List.getElem?_cons_zero, List.getElem?_cons_succ, List.set_cons_zero, List.set_cons_succ, List.length_cons, List.length_nil, List.map_cons, List.map_nil, List.cons_append, List.nil_append, List.replicate_succ, List.replicate_zero, Nat.reduceAdd, Nat.reduceSub, Nat.reduceLT, Nat.reduceLeDiff, sz, Option.bind_some, Option.bind_none, Option.map_some, Bool.false_eq_true, if_true, if_false, reduceIte, Nat.zero_add, startE, Bool.not_true, Bool.not_false, decide_true, decide_false, y2, envL, g]
theorem app_end {F : List D} {y : D} (h : F.length ≤ 100) : mthD .append (.ref m.length) [y] (m ++ [.lst F]) = .ok .non (m ++ [.lst (F ++ [y])]) := by
  have l : F.length < sizeLine := by have := szl (n := F.length + 1) (by omega); omega
  have g : (m ++ [Cell.lst F])[m.length]? = some (.lst F) := by simp
  simp only [mthD, g, if_pos l]
  simp
theorem isL_end {F : List D} : isL (m ++ [.lst F]) (.ref m.length) = true := by
  have g : (m ++ [Cell.lst F])[m.length]? = some (.lst F) := by simp
  simp only [isL, g]
theorem st_yIn (hp : HL wp p) (hq : HL wp q) (lp : p.length = 6) (lq : q.length = 6) {k j : Nat} (hk : k < 6) : ∃ o', evalS CC yIn (envD i e0 p q (some (.int k)) e5 j (some (encQ 0)) e10) m = .nx (envD i e0 p q (some (.int k)) e5 j (some (encQ (convT p q k (k + 1)))) o') m := by
  have hw : wOks (prodW wp wp 6) = true := by decide +kernel
  have hwk : wOk (convW wp wp k (k + 1)) = true := ok_at hw hk
  obtain ⟨env', m', e, hm, o', he⟩ := for_rng (v := 10) (b := fun e m2 => evalB CC [yStp] e m2) (a := 0) (k := k + 1) (env := envD i e0 p q (some (.int k)) e5 j (some (encQ 0)) e10) (m := m) (fun t env m1 => m1 = m ∧ ∃ o, env = envD i e0 p q (some (.int k)) e5 j (some (encQ (convT p q k t))) o)
    (fun t env m1 ht hI => by
      obtain ⟨rfl, o, rfl⟩ := hI
      refine ⟨by simp [envD, envL], _, _, ?_, rfl, some (.int t), rfl⟩
      have w1 := conv_ok hwk (show t + 1 ≤ k + 1 by omega)
      have t1 : runF LL.prog 59 4 [encQ (p.getD t 0), encQ (q.getD (k - t) 0)] m1 = .ok (encQ (p.getD t 0 * q.getD (k - t) 0)) m1 := times_w (n := 56) parts f_times (hp t) (hq (k - t)) (wOks_at wp_ok _) (wOks_at wp_ok _) (wadd_x w1).2
      have t2 : runF LL.prog 59 2 [encQ (convT p q k t), encQ (p.getD t 0 * q.getD (k - t) 0)] m1 = .ok (encQ (convT p q k (t + 1))) m1 := add_w (n := 56) parts f_add (conv_hw hp hq k t) ((hp t).mul (hq (k - t))) w1
      have i1 := ixr (m := m1) (p := p) (k := t) (by omega)
      have i2 := ixr_sub (m := m1) (q := q) (k := k) (j := t) (by omega) (by omega)
      show evalB CC [yStp] (envD i e0 p q (some (.int k)) e5 j (some (encQ (convT p q k t))) (some (.int (0 + (t : Nat))))) m1 = _
      rw [Int.zero_add]
      generalize encQ (convT p q k t) = T at *
      generalize encQ (convT p q k (t + 1)) = T' at *
      generalize encQ (p.getD t 0 * q.getD (k - t) 0) = U at *
      generalize encQ (p.getD t 0) = X at *
      generalize encQ (q.getD (k - t) 0) = Y at *
      unfold envD
      generalize rowD (cutR [1] 6) = O at *
      generalize rowD (cutR [0, 1] 6) = L at *
      generalize rowD p = P at *
      generalize rowD q = Q at *
      simp only [fin_rt, fin_nx, fin_exn, seq_nx, seq_rt, seq_exn, seq_bk, seq_ct, bind_ok, bind_exn, out_ok, out_exn, tst_ok, tst_exn, gc_ok_, gc_exn, gcM_same, asB_bl, selB_t, selB_f, selE_t, selE_f, rdV_some, stT_some, e_var, e_con, e_glo, e_nop, t_bin, t_neg, t_not, t_cmp, t_cmp2, cmp2T_t, cmp2T_f, t_and, t_or, t_if, t_idx, t_tup, t_lst, t_call, t_blt, t_mth, mthT_t, es_nil, ts_cons, b_nil, tb_cons, ts_asg, ts_expr, ts_if, ts_ret, s_rais, seqT_nx, seqT_rt, seqT_exn, seqT_bk, seqT_ct, bindT_ok, bindT_exn, outT_ok, outT_exn, tstT_ok, tstT_exn, asBT_bl, c_eqI, c_neI, c_ltI, c_leI, c_gtI, c_geI, o_addI, o_subI, n_I, abs_N, ix_tup, lift_some, at0, at1, at2, at3, asT_var, asT_tup, asTs_nil, asTs_cons, ctl_call, List.getElem?_cons_zero, List.getElem?_cons_succ, List.set_cons_zero, List.set_cons_succ, List.length_cons, List.length_nil, List.map_cons, List.map_nil, List.cons_append, List.nil_append, List.replicate_succ, List.replicate_zero, Nat.reduceAdd, Nat.reduceSub, Nat.reduceLT, Nat.reduceLeDiff, sz, Option.bind_some, Option.bind_none, Option.map_some, Bool.false_eq_true, if_true, if_false, reduceIte, Nat.zero_add, startE, Bool.not_true, Bool.not_false, decide_true, decide_false, yStp, envL, i1, i2, t1, t2])
    ⟨rfl, e10, rfl⟩
  subst hm he
  refine ⟨o', s_for_of (i_rng1 (k := k + 1) ?_ (by omega)) e⟩
  unfold envD
  simp only [fin_rt, fin_nx, fin_exn, seq_nx, seq_rt, seq_exn, seq_bk, seq_ct, bind_ok, bind_exn, out_ok, out_exn, tst_ok, tst_exn, gc_ok_, gc_exn, gcM_same, asB_bl, selB_t, selB_f, selE_t, selE_f, rdV_some, stT_some, e_var, e_con, e_glo, e_nop, t_bin, t_neg, t_not, t_cmp, t_cmp2, cmp2T_t, cmp2T_f, t_and, t_or, t_if, t_idx, t_tup, t_lst, t_call, t_blt, t_mth, mthT_t, es_nil, ts_cons, b_nil, tb_cons, ts_asg, ts_expr, ts_if, ts_ret, s_rais, seqT_nx, seqT_rt, seqT_exn, seqT_bk, seqT_ct, bindT_ok, bindT_exn, outT_ok, outT_exn, tstT_ok, tstT_exn, asBT_bl, c_eqI, c_neI, c_ltI, c_leI, c_gtI, c_geI, o_addI, o_subI, n_I, abs_N, ix_tup, lift_some, at0, at1, at2, at3, asT_var, asT_tup, asTs_nil, asTs_cons, ctl_call, List.getElem?_cons_zero, List.getElem?_cons_succ, List.set_cons_zero, List.set_cons_succ, List.length_cons, List.length_nil, List.map_cons, List.map_nil, List.cons_append, List.nil_append, List.replicate_succ, List.replicate_zero, Nat.reduceAdd, Nat.reduceSub, Nat.reduceLT, Nat.reduceLeDiff, sz, Option.bind_some, Option.bind_none, Option.map_some, Bool.false_eq_true, if_true, if_false, reduceIte, Nat.zero_add, startE, Bool.not_true, Bool.not_false, decide_true, decide_false, envL]
  rfl
theorem st_y3 (hp : HL wp p) (hq : HL wp q) (lp : p.length = 6) (lq : q.length = 6) : ∃ o4 o9 o10, evalS CC y3 (envD i e0 p q e4 e5 m.length e9 e10) (m ++ [.lst []]) = .nx (envD i e0 p q o4 e5 m.length o9 o10) (m ++ [.lst ((prodR p q).map encQ)]) := by
  obtain ⟨env', m', e, o4, o9, o10, he, hme⟩ := for_rng (v := 4) (b := fun e m2 => evalB CC [yInit, yIn, yApp] e m2) (a := 0) (k := 6) (env := envD i e0 p q e4 e5 m.length e9 e10) (m := m ++ [.lst []])
    (fun k env m1 => ∃ o4 o9 o10, env = envD i e0 p q o4 e5 m.length o9 o10 ∧ m1 = m ++ [.lst (((List.range k).map fun k => convT p q k (k + 1)).map encQ)])
    (fun k env m1 hk hI => by
      obtain ⟨o4, o9, o10, rfl, rfl⟩ := hI
      refine ⟨by simp [envD, envL], ?_⟩
      have a1 : evalS CC yInit (envD i e0 p q (some (.int (0 + (k : Nat)))) e5 m.length o9 o10) (m ++ [.lst (((List.range k).map fun k => convT p q k (k + 1)).map encQ)]) = .nx (envD i e0 p q (some (.int k)) e5 m.length (some (encQ 0)) o10) (m ++ [.lst (((List.range k).map fun k => convT p q k (k + 1)).map encQ)]) := by
        rw [Int.zero_add, enc0]
        unfold envD
        generalize rowD (cutR [1] 6) = O at *
        generalize rowD (cutR [0, 1] 6) = L at *
        simp only [fin_rt, fin_nx, fin_exn, seq_nx, seq_rt, seq_exn, seq_bk, seq_ct, bind_ok, bind_exn, out_ok, out_exn, tst_ok, tst_exn, gc_ok_, gc_exn, gcM_same, asB_bl, selB_t, selB_f, selE_t, selE_f, rdV_some, stT_some, e_var, e_con, e_glo, e_nop, t_bin, t_neg, t_not, t_cmp, t_cmp2, cmp2T_t, cmp2T_f, t_and, t_or, t_if, t_idx, t_tup, t_lst, t_call, t_blt, t_mth, mthT_t, es_nil, ts_cons, b_nil, tb_cons, ts_asg, ts_expr, ts_if, ts_ret, s_rais, seqT_nx, seqT_rt, seqT_exn, seqT_bk, seqT_ct, bindT_ok, bindT_exn, outT_ok, outT_exn, tstT_ok, tstT_exn, asBT_bl, c_eqI, c_neI, c_ltI, c_leI, c_gtI, c_geI, o_addI, o_subI, n_I, abs_N, ix_tup, lift_some, at0, at1, at2, at3, asT_var, asT_tup, asTs_nil, asTs_cons, ctl_call, List.getElem?_cons_zero, List.getElem?_cons_succ, List.set_cons_zero, List.set_cons_succ, List.length_cons, List.length_nil, List.map_cons, List.map_nil, List.cons_append, List.nil_append, List.replicate_succ, List.replicate_zero, Nat.reduceAdd, Nat.reduceSub, Nat.reduceLT, Nat.reduceLeDiff, sz, Option.bind_some, Option.bind_none, Option.map_some, Bool.false_eq_true, if_true, if_false, reduceIte, Nat.zero_add, startE, Bool.not_true, Bool.not_false, decide_true, decide_false, yInit, envL]
      obtain ⟨o', a2⟩ := st_yIn (i := i) (e0 := e0) (e5 := e5) (e10 := o10) (m := m ++ [.lst (((List.range k).map fun k => convT p q k (k + 1)).map encQ)]) (j := m.length) hp hq lp lq hk
      have ap := app_end (m := m) (F := ((List.range k).map fun k => convT p q k (k + 1)).map encQ) (y := encQ (convT p q k (k + 1))) (by simp; omega)
      have g : ∀ (F : List D) (y a : D), gcM (m ++ [Cell.lst F]).length a (m ++ [.lst (F ++ [y])]) = m ++ [.lst (F ++ [y])] := fun F y a => by
        rw [show (m ++ [Cell.lst F]).length = (m ++ [Cell.lst (F ++ [y])]).length by simp, gcM_same]
      have a3 : evalS CC yApp (envD i e0 p q (some (.int k)) e5 m.length (some (encQ (convT p q k (k + 1)))) o') (m ++ [.lst (((List.range k).map fun k => convT p q k (k + 1)).map encQ)]) = .nx (envD i e0 p q (some (.int k)) e5 m.length (some (encQ (convT p q k (k + 1)))) o') (m ++ [.lst (((List.range k).map fun k => convT p q k (k + 1)).map encQ ++ [encQ (convT p q k (k + 1))])]) := by
        generalize ((List.range k).map fun k => convT p q k (k + 1)).map encQ = F at ap
        generalize encQ (convT p q k (k + 1)) = y at ap
        unfold envD
        generalize rowD (cutR [1] 6) = O at *
        generalize rowD (cutR [0, 1] 6) = L at *
        have g1 := g F y
        have il := isL_end (m := m) (F := F)
        simp only [fin_rt, fin_nx, fin_exn, seq_nx, seq_rt, seq_exn, seq_bk, seq_ct, bind_ok, bind_exn, out_ok, out_exn, tst_ok, tst_exn, gc_ok_, gc_exn, gcM_same, asB_bl, selB_t, selB_f, selE_t, selE_f, rdV_some, stT_some, e_var, e_con, e_glo, e_nop, t_bin, t_neg, t_not, t_cmp, t_cmp2, cmp2T_t, cmp2T_f, t_and, t_or, t_if, t_idx, t_tup, t_lst, t_call, t_blt, t_mth, mthT_t, es_nil, ts_cons, b_nil, tb_cons, ts_asg, ts_expr, ts_if, ts_ret, s_rais, seqT_nx, seqT_rt, seqT_exn, seqT_bk, seqT_ct, bindT_ok, bindT_exn, outT_ok, outT_exn, tstT_ok, tstT_exn, asBT_bl, c_eqI, c_neI, c_ltI, c_leI, c_gtI, c_geI, o_addI, o_subI, n_I, abs_N, ix_tup, lift_some, at0, at1, at2, at3, asT_var, asT_tup, asTs_nil, asTs_cons, ctl_call, List.getElem?_cons_zero, List.getElem?_cons_succ, List.set_cons_zero, List.set_cons_succ, List.length_cons, List.length_nil, List.map_cons, List.map_nil, List.cons_append, List.nil_append, List.replicate_succ, List.replicate_zero, Nat.reduceAdd, Nat.reduceSub, Nat.reduceLT, Nat.reduceLeDiff, sz, Option.bind_some, Option.bind_none, Option.map_some, Bool.false_eq_true, if_true, if_false, reduceIte, Nat.zero_add, startE, Bool.not_true, Bool.not_false, decide_true, decide_false, yApp, envL, il, ap, g1]
      refine ⟨_, m ++ [.lst (((List.range k).map fun k => convT p q k (k + 1)).map encQ ++ [encQ (convT p q k (k + 1))])], ?_, some (.int k), some (encQ (convT p q k (k + 1))), o', rfl, ?_⟩
      · show evalB CC [yInit, yIn, yApp] (envD i e0 p q (some (.int (0 + (k : Nat)))) e5 m.length o9 o10) _ = _
        rw [b_cons, a1, seq_nx, b_cons, a2, seq_nx, b_cons, a3, seq_nx, b_nil]
      · rw [List.range_succ, List.map_append, List.map_append]
        rfl)
    ⟨e4, e9, e10, rfl, rfl⟩
  subst he hme
  refine ⟨o4, o9, o10, ?_⟩
  have e3 : (List.range 6).map (fun k => convT p q k (k + 1)) = prodR p q := by unfold prodR; rw [lp]
  rw [e3] at e
  exact s_for_of (i_rng1 (k := 6) e_con (by decide)) e
end
end Dat.K16

/-! R16 -/
set_option maxRecDepth 100000
set_option maxHeartbeats 1000000
set_option linter.all false
/-! R16: the law's body, joined. -/
namespace Dat.K16
open PySem L2
theorem shaped_rowL (p : List Rat) : SeqAt.shaped (.list (p.map pyQ)) = true := by
  obtain ⟨h1, h2⟩ := lay_row p
  unfold SeqAt.shaped
  simp only [PyData.canLay0, PyData.depth, h1, Bool.true_and]
  exact decide_eq_true (by omega)
theorem ne_refs {p : List Rat} {m : Mem} {i j : Nat} (hi : m[i]? = some (.lst (p.map encQ))) (hj : m[j]? = some (.lst (p.map encQ))) : cmpD .NotEq (.ref i) (.ref j) m = .ok (.bl false) m := by
  have e : eqD m (.ref i) (.ref j) = some true := by
    unfold eqD
    simp only [toPy, hi, hj, toPy0_row, Option.map_some]
    rw [if_pos ⟨shaped_rowL p, shaped_rowL p⟩]
    simp only [PyData.eqv, eqv_row]
  simp only [cmpD, e, liftO, Option.map_some, Bool.not_true]
def cP : IE := .comp (.var 4) (.rng1 [(.con (.int 6))]) (.con (.bl true)) (.call 2 [(.idx (.var 2) (.var 4)), (.idx (.var 3) (.var 4))]) [4]
def y5 : IS := .ifS (.orE (.cmp .NotEq (.blt .list [(.call 11 [(.var 2), (.var 3)])]) (.var 8)) (.cmp .NotEq (.call 8 [(.var 2), (.var 3)]) (.blt .tuple [cP]))) no []
def y6 : IS := .ifS (.orE (.cmp .NotEq (.call 9 [(.call 8 [(.var 2), (.var 3)]), (.var 3)]) (.var 2)) (.cmp .NotEq (.call 10 [(.var 2), (.tup [(.con (.int 0)), (.con (.int 1))])]) (.call 7 [(.tup []), (.con (.int 6))]))) no []
def y7a : IS := .ifS (.cmp .NotEq (.told 25 (.call 12 [(.var 2)])) (.con (.str "no way"))) no []
def y7b : IS := .ifS (.orE (.cmp .NotEq (.call 11 [(.var 2), (.call 12 [(.var 2)])]) (.var 6)) (.cmp .NotEq (.call 21 [(.tup [(.idx (.var 2) (.con (.int 0)))]), (.var 2), (.con (.int 6))]) (.call 10 [(.call 12 [(.var 2)]), (.idx (.var 2) (.con (.int 0)))]))) no []
def y7 : IS := .ifS (.cmp .Eq (.idx (.idx (.var 2) (.con (.int 0))) (.con (.int 0))) (.con (.int 0))) [y7a] [y7b]
def y8 : IS := .ifS (.orE (.cmp .NotEq (.call 13 [(.call 14 [(.var 2), (.tup [(.con (.int 5)), (.con (.int 1))])])]) (.var 2)) (.cmp .NotEq (.call 14 [(.call 13 [(.var 2)]), (.idx (.var 2) (.con (.int 0)))]) (.var 2))) no []
def y9 : IS := .ifS (.notE (.call 28 [(.var 2), (.var 3), (.var 6), (.var 7)])) no []
def y10 : IS := .ifS (.notE (.call 29 [(.var 1), (.var 2)])) no []
def y11 : IS := .ifS (.cmp .NotEq (.told 25 (.call 15 [(.var 2), (.var 6)])) (.con (.str "no way"))) no []
def y12 : IS := .ifS (.cmp .NotEq (.told 25 (.call 17 [(.var 6)])) (.con (.str "no way"))) no []
def y13 : IS := .ifS (.cmp .NotEq (.told 25 (.call 18 [(.var 7)])) (.con (.str "no way"))) no []
def y14 : IS := .ifS (.cmp .NotEq (.told 25 (.call 16 [(.var 6)])) (.con (.str "no way"))) no []
def y15 : IS := .ifS (.cmp .NotEq (.call 3 [(.idx (.var 2) (.con (.int 0))), (.idx (.var 2) (.con (.int 0)))]) (.tup [(.con (.int 0)), (.con (.int 1))])) no []
def bodyL : List IS := match ir_law with
  | [.forS _ _ B, _] => B
  | _ => []
theorem bodyL_eq : bodyL = [.asg (.tup [(.var 2), (.var 3)]) xOut1, y1, y2, y3, y5, y6, y7, y8, y9, y10, y11, y12, y13, y14, y15] := rfl
def tl : List (Str × Str) := [("BadNumber", "number"), ("BadTerm", "term"), ("NoWay", "no way"), ("TooLarge", "large")]
theorem tlk : CC.told.lookup 25 = some tl := rfl
theorem tW : toldM CC.sub "NoWay" tl = some "no way" := by decide +kernel
theorem inner_call : CC.inner.call = runF LL.prog 57 := rfl
theorem sW : PyData.strOk "no way" = true := by decide +kernel
section
variable {i k : Nat} {e0 e4 e5 e9 e10 : Option D} {m : Mem}
/-- the two rows and what is known of them -/
structure Two (p q : List Rat) : Prop where
  hp : HL wp p
  hq : HL wp q
  lp : p.length = 6
  lq : q.length = 6
theorem Two.ne {p q : List Rat} (h : Two p q) : p ≠ [] := fun z => by have := h.lp; rw [z] at this; simp at this
variable {p q : List Rat}
theorem c_plus (hm : Clo m) (h : Two p q) : runF LL.prog 59 8 [rowD p, rowD q] m = .ok (rowD (plusR p q)) m :=
  plus_ok (n := 55) hm h.hp h.hq (by rw [h.lp, h.lq]) (by rw [h.lp]; decide) (by rw [h.lp]; decide +kernel)
theorem plusR_len (p q : List Rat) : (plusR p q).length = p.length := by simp [plusR]
theorem c_minus (hm : Clo m) (h : Two p q) : runF LL.prog 59 9 [rowD (plusR p q), rowD q] m = .ok (rowD (minusR (plusR p q) q)) m := by
  have h1 := plus_hl h.hp h.hq
  rw [h.lp] at h1
  exact minus_ok (n := 55) hm h1 h.hq (by rw [plusR_len, h.lp, h.lq]) (by rw [plusR_len, h.lp]; decide) (by rw [plusR_len, h.lp]; decide +kernel)
theorem c_scaled0 (hm : Clo m) (h : Two p q) : runF LL.prog 59 10 [rowD p, encQ 0] m = .ok (rowD (scaledR p 0)) m :=
  scaled_ok (n := 55) hm h.hp (w := none) rfl (by rw [h.lp]; decide) wp_ok rfl (by rw [h.lp]; decide +kernel)
theorem c_prod (hm : Clo m) (h : Two p q) : runF LL.prog 59 11 [rowD p, rowD q] m = .ok (rowD (prodR p q)) m :=
  prod_ok (n := 55) hm h.hp h.hq wp_ok wp_ok (by rw [h.lp, h.lq]; exact Nat.le_refl _) (by rw [h.lp]; decide) (by rw [h.lp]; decide +kernel)
theorem c_back (hm : Clo m) (h : Two p q) (h0 : p.getD 0 0 ≠ 0) : runF LL.prog 59 12 [rowD p] m = .ok (rowD (backR p)) m :=
  back_ok (n := 55) hm h.hp wp_ok h0 (c := 5) (d := 4) rfl (by decide) (by rw [h.lp]; decide) (by rw [h.lp]; decide +kernel)
theorem b_hl (h : Two p q) (h0 : p.getD 0 0 ≠ 0) : HL (backW wp 6) (backR p) := by
  have := back_hl h.hp h0
  rwa [h.lp] at this
theorem c_prodback (hm : Clo m) (h : Two p q) (h0 : p.getD 0 0 ≠ 0) : runF LL.prog 59 11 [rowD p, rowD (backR p)] m = .ok (rowD (prodR p (backR p))) m :=
  prod_ok (n := 55) hm h.hp (b_hl h h0) wp_ok (by decide +kernel) (by rw [backR_len]; exact Nat.le_refl _) (by rw [h.lp]; decide) (by rw [h.lp]; decide +kernel)
theorem c_quo (hm : Clo m) (h : Two p q) (h0 : p.getD 0 0 ≠ 0) : runF LL.prog 59 21 [rowD [p.getD 0 0], rowD p, .int 6] m = .ok (rowD (quoR [p.getD 0 0] p 6)) m := by
  have h1 : HL [some (5, 4)] [p.getD 0 0] := fun i => match i with
    | 0 => h.hp 0
    | i + 1 => rfl
  exact quo_ok (n := 54) (N := 6) hm h1 h.hp (by decide) wp_ok h0 (c := 5) (d := 4) rfl (by decide) (by decide) (by decide) (by decide +kernel) (by decide +kernel) (by decide +kernel)
theorem c_scaledback (hm : Clo m) (h : Two p q) (h0 : p.getD 0 0 ≠ 0) : runF LL.prog 59 10 [rowD (backR p), encQ (p.getD 0 0)] m = .ok (rowD (scaledR (backR p) (p.getD 0 0))) m :=
  scaled_ok (n := 55) hm (b_hl h h0) (w := some (5, 4)) (h.hp 0) (by rw [backR_len, h.lp]; decide) (by decide +kernel) rfl (by rw [backR_len, h.lp]; decide +kernel)
theorem sums_len (p : List Rat) (s : Rat) : (sumsR p s).length = p.length + 1 := sumsR_len p s
theorem c_sums5 (hm : Clo m) (h : Two p q) : runF LL.prog 59 14 [rowD p, encQ 5] m = .ok (rowD (sumsR p 5)) m :=
  sums_ok (n := 55) hm h.hp (by rw [h.lp]; decide) wp_ok (by rw [h.lp]; decide +kernel)
theorem c_slopesums (hm : Clo m) (h : Two p q) : runF LL.prog 59 13 [rowD (sumsR p 5)] m = .ok (rowD (slopeR (sumsR p 5))) m := by
  have h5 : HW (some (3, 0)) (5 : Rat) := ⟨by decide +kernel, by decide +kernel⟩
  have hs := sums_hl h.hp h5
  rw [h.lp] at hs
  exact slope_ok (n := 55) hm hs (by rw [sums_len, h.lp]; decide) (by decide +kernel) (by rw [sums_len, h.lp]; decide +kernel)
theorem c_slope (hm : Clo m) (h : Two p q) : runF LL.prog 59 13 [rowD p] m = .ok (rowD (slopeR p)) m :=
  slope_ok (n := 55) hm h.hp (by rw [h.lp]; decide) wp_ok (by rw [h.lp]; decide +kernel)
theorem slope_len (p : List Rat) : (slopeR p).length = p.length - 1 := by simp [slopeR]
theorem c_sumsslope (hm : Clo m) (h : Two p q) : runF LL.prog 59 14 [rowD (slopeR p), encQ (p.getD 0 0)] m = .ok (rowD (sumsR (slopeR p) (p.getD 0 0))) m := by
  have hs := slope_hl h.hp
  rw [h.lp] at hs
  exact sums_ok (n := 55) hm hs (by rw [slope_len, h.lp]; decide) (by decide +kernel) (by rw [slope_len, h.lp]; decide +kernel)
/-! ### statement by statement -/
def envE (i : Nat) (e0 : Option D) (P Q : D) (e4 e5 : Option D) (O L : D) (k : Nat) (e9 e10 : Option D) : EnvD := envL i e0 (some P) (some Q) e4 e5 (some O) (some L) (some (.ref k)) e9 e10
theorem envD_eq : envD i e0 p q e4 e5 k e9 e10 = envE i e0 (rowD p) (rowD q) e4 e5 (rowD (cutR [1] 6)) (rowD (cutR [0, 1] 6)) k e9 e10 := rfl
variable {P Q O L : D}
theorem y6_any {A B Z : D} (t8 : runF LL.prog 59 8 [P, Q] m = .ok A m) (t9 : runF LL.prog 59 9 [A, Q] m = .ok B m) (n1 : cmpD .NotEq B P m = .ok (.bl false) m) (t10 : runF LL.prog 59 10 [P, .tup [.int 0, .int 1]] m = .ok Z m) {Z' : D} (t7 : runF LL.prog 59 7 [.tup [], .int 6] m = .ok Z' m) (n2 : cmpD .NotEq Z Z' m = .ok (.bl false) m) :
    evalS CC y6 (envE i e0 P Q e4 e5 O L k e9 e10) m = .nx (envE i e0 P Q e4 e5 O L k e9 e10) m := by
  simp only [fin_rt, fin_nx, fin_exn, seq_nx, seq_rt, seq_exn, seq_bk, seq_ct, bind_ok, bind_exn, out_ok, out_exn, tst_ok, tst_exn, gc_ok_, gc_exn, gcM_same, asB_bl, selB_t, selB_f, selE_t, selE_f, rdV_some, stT_some, e_var, e_con, e_glo, e_nop, t_bin, t_neg, t_not, t_cmp, t_cmp2, cmp2T_t, cmp2T_f, t_and, t_or, t_if, t_idx, t_tup, t_lst, t_call, t_blt, t_mth, mthT_t, es_nil, ts_cons, b_nil, tb_cons, ts_asg, ts_expr, ts_if, ts_ret, s_rais, seqT_nx, seqT_rt, seqT_exn, seqT_bk, seqT_ct, bindT_ok, bindT_exn, outT_ok, outT_exn, tstT_ok, tstT_exn, asBT_bl, c_eqI, c_neI, c_ltI, c_leI, c_gtI, c_geI, o_addI, o_subI, n_I, abs_N, ix_tup, lift_some, at0, at1, at2, at3, asT_var, asT_tup, asTs_nil, asTs_cons, ctl_call, List.getElem?_cons_zero, List.getElem?_cons_succ, List.set_cons_zero, List.set_cons_succ, List.length_cons, List.length_nil, List.map_cons, List.map_nil, List.cons_append, List.nil_append, List.replicate_succ, List.replicate_zero, Nat.reduceAdd, Nat.reduceSub, Nat.reduceLT, Nat.reduceLeDiff, sz, Option.bind_some, Option.bind_none, Option.map_some, Bool.false_eq_true, if_true, if_false, reduceIte, Nat.zero_add, startE, Bool.not_true, Bool.not_false, decide_true, decide_false, y6, no, envE, envL, t8, t9, n1, t10, t7, n2]
theorem y7a_any (t : runF LL.prog 57 12 [P] m = .exn "NoWay" none m) : evalS CC y7a (envE i e0 P Q e4 e5 O L k e9 e10) m = .nx (envE i e0 P Q e4 e5 O L k e9 e10) m := by
  have e1 : evalE (.told 25 (.call 12 [(.var 2)])) CC (envE i e0 P Q e4 e5 O L k e9 e10) m = .ok (.str "no way") m := by
    refine told_exn tlk (c := "NoWay") (p := none) (m1 := m) ?_ tW gcM_same
    simp only [fin_rt, fin_nx, fin_exn, seq_nx, seq_rt, seq_exn, seq_bk, seq_ct, bind_ok, bind_exn, out_ok, out_exn, tst_ok, tst_exn, gc_ok_, gc_exn, gcM_same, asB_bl, selB_t, selB_f, selE_t, selE_f, rdV_some, stT_some, e_var, e_con, e_glo, e_nop, t_bin, t_neg, t_not, t_cmp, t_cmp2, cmp2T_t, cmp2T_f, t_and, t_or, t_if, t_idx, t_tup, t_lst, t_call, t_blt, t_mth, mthT_t, es_nil, ts_cons, b_nil, tb_cons, ts_asg, ts_expr, ts_if, ts_ret, s_rais, seqT_nx, seqT_rt, seqT_exn, seqT_bk, seqT_ct, bindT_ok, bindT_exn, outT_ok, outT_exn, tstT_ok, tstT_exn, asBT_bl, c_eqI, c_neI, c_ltI, c_leI, c_gtI, c_geI, o_addI, o_subI, n_I, abs_N, ix_tup, lift_some, at0, at1, at2, at3, asT_var, asT_tup, asTs_nil, asTs_cons, ctl_call, List.getElem?_cons_zero, List.getElem?_cons_succ, List.set_cons_zero, List.set_cons_succ, List.length_cons, List.length_nil, List.map_cons, List.map_nil, List.cons_append, List.nil_append, List.replicate_succ, List.replicate_zero, Nat.reduceAdd, Nat.reduceSub, Nat.reduceLT, Nat.reduceLeDiff, sz, Option.bind_some, Option.bind_none, Option.map_some, Bool.false_eq_true, if_true, if_false, reduceIte, Nat.zero_add, startE, Bool.not_true, Bool.not_false, decide_true, decide_false, envE, envL, inner_call, t]
  generalize envE i e0 P Q e4 e5 O L k e9 e10 = env at *
  simp only [fin_rt, fin_nx, fin_exn, seq_nx, seq_rt, seq_exn, seq_bk, seq_ct, bind_ok, bind_exn, out_ok, out_exn, tst_ok, tst_exn, gc_ok_, gc_exn, gcM_same, asB_bl, selB_t, selB_f, selE_t, selE_f, rdV_some, stT_some, e_var, e_con, e_glo, e_nop, t_bin, t_neg, t_not, t_cmp, t_cmp2, cmp2T_t, cmp2T_f, t_and, t_or, t_if, t_idx, t_tup, t_lst, t_call, t_blt, t_mth, mthT_t, es_nil, ts_cons, b_nil, tb_cons, ts_asg, ts_expr, ts_if, ts_ret, s_rais, seqT_nx, seqT_rt, seqT_exn, seqT_bk, seqT_ct, bindT_ok, bindT_exn, outT_ok, outT_exn, tstT_ok, tstT_exn, asBT_bl, c_eqI, c_neI, c_ltI, c_leI, c_gtI, c_geI, o_addI, o_subI, n_I, abs_N, ix_tup, lift_some, at0, at1, at2, at3, asT_var, asT_tup, asTs_nil, asTs_cons, ctl_call, List.getElem?_cons_zero, List.getElem?_cons_succ, List.set_cons_zero, List.set_cons_succ, List.length_cons, List.length_nil, List.map_cons, List.map_nil, List.cons_append, List.nil_append, List.replicate_succ, List.replicate_zero, Nat.reduceAdd, Nat.reduceSub, Nat.reduceLT, Nat.reduceLeDiff, sz, Option.bind_some, Option.bind_none, Option.map_some, Bool.false_eq_true, if_true, if_false, reduceIte, Nat.zero_add, startE, Bool.not_true, Bool.not_false, decide_true, decide_false, y7a, no, e1, ne_strs sW]
theorem y7b_any {B A x U V : D} (t12 : runF LL.prog 59 12 [P] m = .ok B m) (t11 : runF LL.prog 59 11 [P, B] m = .ok A m) (n1 : cmpD .NotEq A O m = .ok (.bl false) m) (ix : idxD P (.int 0) m = .ok x m) (t21 : runF LL.prog 59 21 [.tup [x], P, .int 6] m = .ok U m) (t10 : runF LL.prog 59 10 [B, x] m = .ok V m) (n2 : cmpD .NotEq U V m = .ok (.bl false) m) :
    evalS CC y7b (envE i e0 P Q e4 e5 O L k e9 e10) m = .nx (envE i e0 P Q e4 e5 O L k e9 e10) m := by
  simp only [fin_rt, fin_nx, fin_exn, seq_nx, seq_rt, seq_exn, seq_bk, seq_ct, bind_ok, bind_exn, out_ok, out_exn, tst_ok, tst_exn, gc_ok_, gc_exn, gcM_same, asB_bl, selB_t, selB_f, selE_t, selE_f, rdV_some, stT_some, e_var, e_con, e_glo, e_nop, t_bin, t_neg, t_not, t_cmp, t_cmp2, cmp2T_t, cmp2T_f, t_and, t_or, t_if, t_idx, t_tup, t_lst, t_call, t_blt, t_mth, mthT_t, es_nil, ts_cons, b_nil, tb_cons, ts_asg, ts_expr, ts_if, ts_ret, s_rais, seqT_nx, seqT_rt, seqT_exn, seqT_bk, seqT_ct, bindT_ok, bindT_exn, outT_ok, outT_exn, tstT_ok, tstT_exn, asBT_bl, c_eqI, c_neI, c_ltI, c_leI, c_gtI, c_geI, o_addI, o_subI, n_I, abs_N, ix_tup, lift_some, at0, at1, at2, at3, asT_var, asT_tup, asTs_nil, asTs_cons, ctl_call, List.getElem?_cons_zero, List.getElem?_cons_succ, List.set_cons_zero, List.set_cons_succ, List.length_cons, List.length_nil, List.map_cons, List.map_nil, List.cons_append, List.nil_append, List.replicate_succ, List.replicate_zero, Nat.reduceAdd, Nat.reduceSub, Nat.reduceLT, Nat.reduceLeDiff, sz, Option.bind_some, Option.bind_none, Option.map_some, Bool.false_eq_true, if_true, if_false, reduceIte, Nat.zero_add, startE, Bool.not_true, Bool.not_false, decide_true, decide_false, y7b, no, envE, envL, t12, t11, n1, ix, t21, t10, n2]
theorem y7_any {x : D} {a : Int} (ix : idxD P (.int 0) m = .ok x m) (iy : idxD x (.int 0) m = .ok (.int a) m) (h1 : a = 0 → evalS CC y7a (envE i e0 P Q e4 e5 O L k e9 e10) m = .nx (envE i e0 P Q e4 e5 O L k e9 e10) m) (h2 : a ≠ 0 → evalS CC y7b (envE i e0 P Q e4 e5 O L k e9 e10) m = .nx (envE i e0 P Q e4 e5 O L k e9 e10) m) :
    evalS CC y7 (envE i e0 P Q e4 e5 O L k e9 e10) m = .nx (envE i e0 P Q e4 e5 O L k e9 e10) m := by
  have c1 : evalE (.cmp .Eq (.idx (.idx (.var 2) (.con (.int 0))) (.con (.int 0))) (.con (.int 0))) CC (envE i e0 P Q e4 e5 O L k e9 e10) m = .ok (.bl (decide (a = 0))) m := by
    simp only [fin_rt, fin_nx, fin_exn, seq_nx, seq_rt, seq_exn, seq_bk, seq_ct, bind_ok, bind_exn, out_ok, out_exn, tst_ok, tst_exn, gc_ok_, gc_exn, gcM_same, asB_bl, selB_t, selB_f, selE_t, selE_f, rdV_some, stT_some, e_var, e_con, e_glo, e_nop, t_bin, t_neg, t_not, t_cmp, t_cmp2, cmp2T_t, cmp2T_f, t_and, t_or, t_if, t_idx, t_tup, t_lst, t_call, t_blt, t_mth, mthT_t, es_nil, ts_cons, b_nil, tb_cons, ts_asg, ts_expr, ts_if, ts_ret, s_rais, seqT_nx, seqT_rt, seqT_exn, seqT_bk, seqT_ct, bindT_ok, bindT_exn, outT_ok, outT_exn, tstT_ok, tstT_exn, asBT_bl, c_eqI, c_neI, c_ltI, c_leI, c_gtI, c_geI, o_addI, o_subI, n_I, abs_N, ix_tup, lift_some, at0, at1, at2, at3, asT_var, asT_tup, asTs_nil, asTs_cons, ctl_call, List.getElem?_cons_zero, List.getElem?_cons_succ, List.set_cons_zero, List.set_cons_succ, List.length_cons, List.length_nil, List.map_cons, List.map_nil, List.cons_append, List.nil_append, List.replicate_succ, List.replicate_zero, Nat.reduceAdd, Nat.reduceSub, Nat.reduceLT, Nat.reduceLeDiff, sz, Option.bind_some, Option.bind_none, Option.map_some, Bool.false_eq_true, if_true, if_false, reduceIte, Nat.zero_add, startE, Bool.not_true, Bool.not_false, decide_true, decide_false, envE, envL, ix, iy]
  unfold y7
  rw [s_if, c1, tst_ok, gcM_same]
  by_cases ha : a = 0
  · rw [decide_eq_true ha, selB_t, b_cons, h1 ha, seq_nx, b_nil]
  · rw [decide_eq_false ha, selB_f, b_cons, h2 ha, seq_nx, b_nil]
theorem y8_any {A B U V x : D} (t14 : runF LL.prog 59 14 [P, .tup [.int 5, .int 1]] m = .ok A m) (t13 : runF LL.prog 59 13 [A] m = .ok B m) (n1 : cmpD .NotEq B P m = .ok (.bl false) m) (ix : idxD P (.int 0) m = .ok x m) (u13 : runF LL.prog 59 13 [P] m = .ok U m) (u14 : runF LL.prog 59 14 [U, x] m = .ok V m) (n2 : cmpD .NotEq V P m = .ok (.bl false) m) :
    evalS CC y8 (envE i e0 P Q e4 e5 O L k e9 e10) m = .nx (envE i e0 P Q e4 e5 O L k e9 e10) m := by
  simp only [fin_rt, fin_nx, fin_exn, seq_nx, seq_rt, seq_exn, seq_bk, seq_ct, bind_ok, bind_exn, out_ok, out_exn, tst_ok, tst_exn, gc_ok_, gc_exn, gcM_same, asB_bl, selB_t, selB_f, selE_t, selE_f, rdV_some, stT_some, e_var, e_con, e_glo, e_nop, t_bin, t_neg, t_not, t_cmp, t_cmp2, cmp2T_t, cmp2T_f, t_and, t_or, t_if, t_idx, t_tup, t_lst, t_call, t_blt, t_mth, mthT_t, es_nil, ts_cons, b_nil, tb_cons, ts_asg, ts_expr, ts_if, ts_ret, s_rais, seqT_nx, seqT_rt, seqT_exn, seqT_bk, seqT_ct, bindT_ok, bindT_exn, outT_ok, outT_exn, tstT_ok, tstT_exn, asBT_bl, c_eqI, c_neI, c_ltI, c_leI, c_gtI, c_geI, o_addI, o_subI, n_I, abs_N, ix_tup, lift_some, at0, at1, at2, at3, asT_var, asT_tup, asTs_nil, asTs_cons, ctl_call, List.getElem?_cons_zero, List.getElem?_cons_succ, List.set_cons_zero, List.set_cons_succ, List.length_cons, List.length_nil, List.map_cons, List.map_nil, List.cons_append, List.nil_append, List.replicate_succ, List.replicate_zero, Nat.reduceAdd, Nat.reduceSub, Nat.reduceLT, Nat.reduceLeDiff, sz, Option.bind_some, Option.bind_none, Option.map_some, Bool.false_eq_true, if_true, if_false, reduceIte, Nat.zero_add, startE, Bool.not_true, Bool.not_false, decide_true, decide_false, y8, no, envE, envL, t14, t13, n1, ix, u13, u14, n2]
theorem y9_any (t : runF LL.prog 59 28 [P, Q, O, L] m = .ok (.bl true) m) : evalS CC y9 (envE i e0 P Q e4 e5 O L k e9 e10) m = .nx (envE i e0 P Q e4 e5 O L k e9 e10) m := by
  simp only [fin_rt, fin_nx, fin_exn, seq_nx, seq_rt, seq_exn, seq_bk, seq_ct, bind_ok, bind_exn, out_ok, out_exn, tst_ok, tst_exn, gc_ok_, gc_exn, gcM_same, asB_bl, selB_t, selB_f, selE_t, selE_f, rdV_some, stT_some, e_var, e_con, e_glo, e_nop, t_bin, t_neg, t_not, t_cmp, t_cmp2, cmp2T_t, cmp2T_f, t_and, t_or, t_if, t_idx, t_tup, t_lst, t_call, t_blt, t_mth, mthT_t, es_nil, ts_cons, b_nil, tb_cons, ts_asg, ts_expr, ts_if, ts_ret, s_rais, seqT_nx, seqT_rt, seqT_exn, seqT_bk, seqT_ct, bindT_ok, bindT_exn, outT_ok, outT_exn, tstT_ok, tstT_exn, asBT_bl, c_eqI, c_neI, c_ltI, c_leI, c_gtI, c_geI, o_addI, o_subI, n_I, abs_N, ix_tup, lift_some, at0, at1, at2, at3, asT_var, asT_tup, asTs_nil, asTs_cons, ctl_call, List.getElem?_cons_zero, List.getElem?_cons_succ, List.set_cons_zero, List.set_cons_succ, List.length_cons, List.length_nil, List.map_cons, List.map_nil, List.cons_append, List.nil_append, List.replicate_succ, List.replicate_zero, Nat.reduceAdd, Nat.reduceSub, Nat.reduceLT, Nat.reduceLeDiff, sz, Option.bind_some, Option.bind_none, Option.map_some, Bool.false_eq_true, if_true, if_false, reduceIte, Nat.zero_add, startE, Bool.not_true, Bool.not_false, decide_true, decide_false, y9, no, envE, envL, t]
theorem y10_any {m2 : Mem} (t : runF LL.prog 59 29 [.ref i, P] m = .ok (.bl true) m2) (g : ∀ a, gcM m.length a m2 = m2) : evalS CC y10 (envE i e0 P Q e4 e5 O L k e9 e10) m = .nx (envE i e0 P Q e4 e5 O L k e9 e10) m2 := by
  simp only [fin_rt, fin_nx, fin_exn, seq_nx, seq_rt, seq_exn, seq_bk, seq_ct, bind_ok, bind_exn, out_ok, out_exn, tst_ok, tst_exn, gc_ok_, gc_exn, gcM_same, asB_bl, selB_t, selB_f, selE_t, selE_f, rdV_some, stT_some, e_var, e_con, e_glo, e_nop, t_bin, t_neg, t_not, t_cmp, t_cmp2, cmp2T_t, cmp2T_f, t_and, t_or, t_if, t_idx, t_tup, t_lst, t_call, t_blt, t_mth, mthT_t, es_nil, ts_cons, b_nil, tb_cons, ts_asg, ts_expr, ts_if, ts_ret, s_rais, seqT_nx, seqT_rt, seqT_exn, seqT_bk, seqT_ct, bindT_ok, bindT_exn, outT_ok, outT_exn, tstT_ok, tstT_exn, asBT_bl, c_eqI, c_neI, c_ltI, c_leI, c_gtI, c_geI, o_addI, o_subI, n_I, abs_N, ix_tup, lift_some, at0, at1, at2, at3, asT_var, asT_tup, asTs_nil, asTs_cons, ctl_call, List.getElem?_cons_zero, List.getElem?_cons_succ, List.set_cons_zero, List.set_cons_succ, List.length_cons, List.length_nil, List.map_cons, List.map_nil, List.cons_append, List.nil_append, List.replicate_succ, List.replicate_zero, Nat.reduceAdd, Nat.reduceSub, Nat.reduceLT, Nat.reduceLeDiff, sz, Option.bind_some, Option.bind_none, Option.map_some, Bool.false_eq_true, if_true, if_false, reduceIte, Nat.zero_add, startE, Bool.not_true, Bool.not_false, decide_true, decide_false, y10, no, envE, envL, t, g]
theorem y11_any (t : runF LL.prog 57 15 [P, O] m = .exn "NoWay" none m) : evalS CC y11 (envE i e0 P Q e4 e5 O L k e9 e10) m = .nx (envE i e0 P Q e4 e5 O L k e9 e10) m := by
  have e1 : evalE (.told 25 (.call 15 [(.var 2), (.var 6)])) CC (envE i e0 P Q e4 e5 O L k e9 e10) m = .ok (.str "no way") m := by
    refine told_exn tlk (c := "NoWay") (p := none) (m1 := m) ?_ tW gcM_same
    simp only [fin_rt, fin_nx, fin_exn, seq_nx, seq_rt, seq_exn, seq_bk, seq_ct, bind_ok, bind_exn, out_ok, out_exn, tst_ok, tst_exn, gc_ok_, gc_exn, gcM_same, asB_bl, selB_t, selB_f, selE_t, selE_f, rdV_some, stT_some, e_var, e_con, e_glo, e_nop, t_bin, t_neg, t_not, t_cmp, t_cmp2, cmp2T_t, cmp2T_f, t_and, t_or, t_if, t_idx, t_tup, t_lst, t_call, t_blt, t_mth, mthT_t, es_nil, ts_cons, b_nil, tb_cons, ts_asg, ts_expr, ts_if, ts_ret, s_rais, seqT_nx, seqT_rt, seqT_exn, seqT_bk, seqT_ct, bindT_ok, bindT_exn, outT_ok, outT_exn, tstT_ok, tstT_exn, asBT_bl, c_eqI, c_neI, c_ltI, c_leI, c_gtI, c_geI, o_addI, o_subI, n_I, abs_N, ix_tup, lift_some, at0, at1, at2, at3, asT_var, asT_tup, asTs_nil, asTs_cons, ctl_call, List.getElem?_cons_zero, List.getElem?_cons_succ, List.set_cons_zero, List.set_cons_succ, List.length_cons, List.length_nil, List.map_cons, List.map_nil, List.cons_append, List.nil_append, List.replicate_succ, List.replicate_zero, Nat.reduceAdd, Nat.reduceSub, Nat.reduceLT, Nat.reduceLeDiff, sz, Option.bind_some, Option.bind_none, Option.map_some, Bool.false_eq_true, if_true, if_false, reduceIte, Nat.zero_add, startE, Bool.not_true, Bool.not_false, decide_true, decide_false, envE, envL, inner_call, t]
  generalize envE i e0 P Q e4 e5 O L k e9 e10 = env at *
  simp only [fin_rt, fin_nx, fin_exn, seq_nx, seq_rt, seq_exn, seq_bk, seq_ct, bind_ok, bind_exn, out_ok, out_exn, tst_ok, tst_exn, gc_ok_, gc_exn, gcM_same, asB_bl, selB_t, selB_f, selE_t, selE_f, rdV_some, stT_some, e_var, e_con, e_glo, e_nop, t_bin, t_neg, t_not, t_cmp, t_cmp2, cmp2T_t, cmp2T_f, t_and, t_or, t_if, t_idx, t_tup, t_lst, t_call, t_blt, t_mth, mthT_t, es_nil, ts_cons, b_nil, tb_cons, ts_asg, ts_expr, ts_if, ts_ret, s_rais, seqT_nx, seqT_rt, seqT_exn, seqT_bk, seqT_ct, bindT_ok, bindT_exn, outT_ok, outT_exn, tstT_ok, tstT_exn, asBT_bl, c_eqI, c_neI, c_ltI, c_leI, c_gtI, c_geI, o_addI, o_subI, n_I, abs_N, ix_tup, lift_some, at0, at1, at2, at3, asT_var, asT_tup, asTs_nil, asTs_cons, ctl_call, List.getElem?_cons_zero, List.getElem?_cons_succ, List.set_cons_zero, List.set_cons_succ, List.length_cons, List.length_nil, List.map_cons, List.map_nil, List.cons_append, List.nil_append, List.replicate_succ, List.replicate_zero, Nat.reduceAdd, Nat.reduceSub, Nat.reduceLT, Nat.reduceLeDiff, sz, Option.bind_some, Option.bind_none, Option.map_some, Bool.false_eq_true, if_true, if_false, reduceIte, Nat.zero_add, startE, Bool.not_true, Bool.not_false, decide_true, decide_false, y11, no, e1, ne_strs sW]
theorem y12_any (t : runF LL.prog 57 17 [O] m = .exn "NoWay" none m) : evalS CC y12 (envE i e0 P Q e4 e5 O L k e9 e10) m = .nx (envE i e0 P Q e4 e5 O L k e9 e10) m := by
  have e1 : evalE (.told 25 (.call 17 [(.var 6)])) CC (envE i e0 P Q e4 e5 O L k e9 e10) m = .ok (.str "no way") m := by
    refine told_exn tlk (c := "NoWay") (p := none) (m1 := m) ?_ tW gcM_same
    simp only [fin_rt, fin_nx, fin_exn, seq_nx, seq_rt, seq_exn, seq_bk, seq_ct, bind_ok, bind_exn, out_ok, out_exn, tst_ok, tst_exn, gc_ok_, gc_exn, gcM_same, asB_bl, selB_t, selB_f, selE_t, selE_f, rdV_some, stT_some, e_var, e_con, e_glo, e_nop, t_bin, t_neg, t_not, t_cmp, t_cmp2, cmp2T_t, cmp2T_f, t_and, t_or, t_if, t_idx, t_tup, t_lst, t_call, t_blt, t_mth, mthT_t, es_nil, ts_cons, b_nil, tb_cons, ts_asg, ts_expr, ts_if, ts_ret, s_rais, seqT_nx, seqT_rt, seqT_exn, seqT_bk, seqT_ct, bindT_ok, bindT_exn, outT_ok, outT_exn, tstT_ok, tstT_exn, asBT_bl, c_eqI, c_neI, c_ltI, c_leI, c_gtI, c_geI, o_addI, o_subI, n_I, abs_N, ix_tup, lift_some, at0, at1, at2, at3, asT_var, asT_tup, asTs_nil, asTs_cons, ctl_call, List.getElem?_cons_zero, List.getElem?_cons_succ, List.set_cons_zero, List.set_cons_succ, List.length_cons, List.length_nil, List.map_cons, List.map_nil, List.cons_append, List.nil_append, List.replicate_succ, List.replicate_zero, Nat.reduceAdd, Nat.reduceSub, Nat.reduceLT, Nat.reduceLeDiff, sz, Option.bind_some, Option.bind_none, Option.map_some, Bool.false_eq_true, if_true, if_false, reduceIte, Nat.zero_add, startE, Bool.not_true, Bool.not_false, decide_true, decide_false, envE, envL, inner_call, t]
  generalize envE i e0 P Q e4 e5 O L k e9 e10 = env at *
  simp only [fin_rt, fin_nx, fin_exn, seq_nx, seq_rt, seq_exn, seq_bk, seq_ct, bind_ok, bind_exn, out_ok, out_exn, tst_ok, tst_exn, gc_ok_, gc_exn, gcM_same, asB_bl, selB_t, selB_f, selE_t, selE_f, rdV_some, stT_some, e_var, e_con, e_glo, e_nop, t_bin, t_neg, t_not, t_cmp, t_cmp2, cmp2T_t, cmp2T_f, t_and, t_or, t_if, t_idx, t_tup, t_lst, t_call, t_blt, t_mth, mthT_t, es_nil, ts_cons, b_nil, tb_cons, ts_asg, ts_expr, ts_if, ts_ret, s_rais, seqT_nx, seqT_rt, seqT_exn, seqT_bk, seqT_ct, bindT_ok, bindT_exn, outT_ok, outT_exn, tstT_ok, tstT_exn, asBT_bl, c_eqI, c_neI, c_ltI, c_leI, c_gtI, c_geI, o_addI, o_subI, n_I, abs_N, ix_tup, lift_some, at0, at1, at2, at3, asT_var, asT_tup, asTs_nil, asTs_cons, ctl_call, List.getElem?_cons_zero, List.getElem?_cons_succ, List.set_cons_zero, List.set_cons_succ, List.length_cons, List.length_nil, List.map_cons, List.map_nil, List.cons_append, List.nil_append, List.replicate_succ, List.replicate_zero, Nat.reduceAdd, Nat.reduceSub, Nat.reduceLT, Nat.reduceLeDiff, sz, Option.bind_some, Option.bind_none, Option.map_some, Bool.false_eq_true, if_true, if_false, reduceIte, Nat.zero_add, startE, Bool.not_true, Bool.not_false, decide_true, decide_false, y12, no, e1, ne_strs sW]
theorem y13_any (t : runF LL.prog 57 18 [L] m = .exn "NoWay" none m) : evalS CC y13 (envE i e0 P Q e4 e5 O L k e9 e10) m = .nx (envE i e0 P Q e4 e5 O L k e9 e10) m := by
  have e1 : evalE (.told 25 (.call 18 [(.var 7)])) CC (envE i e0 P Q e4 e5 O L k e9 e10) m = .ok (.str "no way") m := by
    refine told_exn tlk (c := "NoWay") (p := none) (m1 := m) ?_ tW gcM_same
    simp only [fin_rt, fin_nx, fin_exn, seq_nx, seq_rt, seq_exn, seq_bk, seq_ct, bind_ok, bind_exn, out_ok, out_exn, tst_ok, tst_exn, gc_ok_, gc_exn, gcM_same, asB_bl, selB_t, selB_f, selE_t, selE_f, rdV_some, stT_some, e_var, e_con, e_glo, e_nop, t_bin, t_neg, t_not, t_cmp, t_cmp2, cmp2T_t, cmp2T_f, t_and, t_or, t_if, t_idx, t_tup, t_lst, t_call, t_blt, t_mth, mthT_t, es_nil, ts_cons, b_nil, tb_cons, ts_asg, ts_expr, ts_if, ts_ret, s_rais, seqT_nx, seqT_rt, seqT_exn, seqT_bk, seqT_ct, bindT_ok, bindT_exn, outT_ok, outT_exn, tstT_ok, tstT_exn, asBT_bl, c_eqI, c_neI, c_ltI, c_leI, c_gtI, c_geI, o_addI, o_subI, n_I, abs_N, ix_tup, lift_some, at0, at1, at2, at3, asT_var, asT_tup, asTs_nil, asTs_cons, ctl_call, List.getElem?_cons_zero, List.getElem?_cons_succ, List.set_cons_zero, List.set_cons_succ, List.length_cons, List.length_nil, List.map_cons, List.map_nil, List.cons_append, List.nil_append, List.replicate_succ, List.replicate_zero, Nat.reduceAdd, Nat.reduceSub, Nat.reduceLT, Nat.reduceLeDiff, sz, Option.bind_some, Option.bind_none, Option.map_some, Bool.false_eq_true, if_true, if_false, reduceIte, Nat.zero_add, startE, Bool.not_true, Bool.not_false, decide_true, decide_false, envE, envL, inner_call, t]
  generalize envE i e0 P Q e4 e5 O L k e9 e10 = env at *
  simp only [fin_rt, fin_nx, fin_exn, seq_nx, seq_rt, seq_exn, seq_bk, seq_ct, bind_ok, bind_exn, out_ok, out_exn, tst_ok, tst_exn, gc_ok_, gc_exn, gcM_same, asB_bl, selB_t, selB_f, selE_t, selE_f, rdV_some, stT_some, e_var, e_con, e_glo, e_nop, t_bin, t_neg, t_not, t_cmp, t_cmp2, cmp2T_t, cmp2T_f, t_and, t_or, t_if, t_idx, t_tup, t_lst, t_call, t_blt, t_mth, mthT_t, es_nil, ts_cons, b_nil, tb_cons, ts_asg, ts_expr, ts_if, ts_ret, s_rais, seqT_nx, seqT_rt, seqT_exn, seqT_bk, seqT_ct, bindT_ok, bindT_exn, outT_ok, outT_exn, tstT_ok, tstT_exn, asBT_bl, c_eqI, c_neI, c_ltI, c_leI, c_gtI, c_geI, o_addI, o_subI, n_I, abs_N, ix_tup, lift_some, at0, at1, at2, at3, asT_var, asT_tup, asTs_nil, asTs_cons, ctl_call, List.getElem?_cons_zero, List.getElem?_cons_succ, List.set_cons_zero, List.set_cons_succ, List.length_cons, List.length_nil, List.map_cons, List.map_nil, List.cons_append, List.nil_append, List.replicate_succ, List.replicate_zero, Nat.reduceAdd, Nat.reduceSub, Nat.reduceLT, Nat.reduceLeDiff, sz, Option.bind_some, Option.bind_none, Option.map_some, Bool.false_eq_true, if_true, if_false, reduceIte, Nat.zero_add, startE, Bool.not_true, Bool.not_false, decide_true, decide_false, y13, no, e1, ne_strs sW]
theorem y14_any (t : runF LL.prog 57 16 [O] m = .exn "NoWay" none m) : evalS CC y14 (envE i e0 P Q e4 e5 O L k e9 e10) m = .nx (envE i e0 P Q e4 e5 O L k e9 e10) m := by
  have e1 : evalE (.told 25 (.call 16 [(.var 6)])) CC (envE i e0 P Q e4 e5 O L k e9 e10) m = .ok (.str "no way") m := by
    refine told_exn tlk (c := "NoWay") (p := none) (m1 := m) ?_ tW gcM_same
    simp only [fin_rt, fin_nx, fin_exn, seq_nx, seq_rt, seq_exn, seq_bk, seq_ct, bind_ok, bind_exn, out_ok, out_exn, tst_ok, tst_exn, gc_ok_, gc_exn, gcM_same, asB_bl, selB_t, selB_f, selE_t, selE_f, rdV_some, stT_some, e_var, e_con, e_glo, e_nop, t_bin, t_neg, t_not, t_cmp, t_cmp2, cmp2T_t, cmp2T_f, t_and, t_or, t_if, t_idx, t_tup, t_lst, t_call, t_blt, t_mth, mthT_t, es_nil, ts_cons, b_nil, tb_cons, ts_asg, ts_expr, ts_if, ts_ret, s_rais, seqT_nx, seqT_rt, seqT_exn, seqT_bk, seqT_ct, bindT_ok, bindT_exn, outT_ok, outT_exn, tstT_ok, tstT_exn, asBT_bl, c_eqI, c_neI, c_ltI, c_leI, c_gtI, c_geI, o_addI, o_subI, n_I, abs_N, ix_tup, lift_some, at0, at1, at2, at3, asT_var, asT_tup, asTs_nil, asTs_cons, ctl_call, List.getElem?_cons_zero, List.getElem?_cons_succ, List.set_cons_zero, List.set_cons_succ, List.length_cons, List.length_nil, List.map_cons, List.map_nil, List.cons_append, List.nil_append, List.replicate_succ, List.replicate_zero, Nat.reduceAdd, Nat.reduceSub, Nat.reduceLT, Nat.reduceLeDiff, sz, Option.bind_some, Option.bind_none, Option.map_some, Bool.false_eq_true, if_true, if_false, reduceIte, Nat.zero_add, startE, Bool.not_true, Bool.not_false, decide_true, decide_false, envE, envL, inner_call, t]
  generalize envE i e0 P Q e4 e5 O L k e9 e10 = env at *
  simp only [fin_rt, fin_nx, fin_exn, seq_nx, seq_rt, seq_exn, seq_bk, seq_ct, bind_ok, bind_exn, out_ok, out_exn, tst_ok, tst_exn, gc_ok_, gc_exn, gcM_same, asB_bl, selB_t, selB_f, selE_t, selE_f, rdV_some, stT_some, e_var, e_con, e_glo, e_nop, t_bin, t_neg, t_not, t_cmp, t_cmp2, cmp2T_t, cmp2T_f, t_and, t_or, t_if, t_idx, t_tup, t_lst, t_call, t_blt, t_mth, mthT_t, es_nil, ts_cons, b_nil, tb_cons, ts_asg, ts_expr, ts_if, ts_ret, s_rais, seqT_nx, seqT_rt, seqT_exn, seqT_bk, seqT_ct, bindT_ok, bindT_exn, outT_ok, outT_exn, tstT_ok, tstT_exn, asBT_bl, c_eqI, c_neI, c_ltI, c_leI, c_gtI, c_geI, o_addI, o_subI, n_I, abs_N, ix_tup, lift_some, at0, at1, at2, at3, asT_var, asT_tup, asTs_nil, asTs_cons, ctl_call, List.getElem?_cons_zero, List.getElem?_cons_succ, List.set_cons_zero, List.set_cons_succ, List.length_cons, List.length_nil, List.map_cons, List.map_nil, List.cons_append, List.nil_append, List.replicate_succ, List.replicate_zero, Nat.reduceAdd, Nat.reduceSub, Nat.reduceLT, Nat.reduceLeDiff, sz, Option.bind_some, Option.bind_none, Option.map_some, Bool.false_eq_true, if_true, if_false, reduceIte, Nat.zero_add, startE, Bool.not_true, Bool.not_false, decide_true, decide_false, y14, no, e1, ne_strs sW]
theorem y15_any {x z : D} (ix : idxD P (.int 0) m = .ok x m) (t : runF LL.prog 59 3 [x, x] m = .ok z m) (n1 : cmpD .NotEq z (.tup [.int 0, .int 1]) m = .ok (.bl false) m) : evalS CC y15 (envE i e0 P Q e4 e5 O L k e9 e10) m = .nx (envE i e0 P Q e4 e5 O L k e9 e10) m := by
  simp only [fin_rt, fin_nx, fin_exn, seq_nx, seq_rt, seq_exn, seq_bk, seq_ct, bind_ok, bind_exn, out_ok, out_exn, tst_ok, tst_exn, gc_ok_, gc_exn, gcM_same, asB_bl, selB_t, selB_f, selE_t, selE_f, rdV_some, stT_some, e_var, e_con, e_glo, e_nop, t_bin, t_neg, t_not, t_cmp, t_cmp2, cmp2T_t, cmp2T_f, t_and, t_or, t_if, t_idx, t_tup, t_lst, t_call, t_blt, t_mth, mthT_t, es_nil, ts_cons, b_nil, tb_cons, ts_asg, ts_expr, ts_if, ts_ret, s_rais, seqT_nx, seqT_rt, seqT_exn, seqT_bk, seqT_ct, bindT_ok, bindT_exn, outT_ok, outT_exn, tstT_ok, tstT_exn, asBT_bl, c_eqI, c_neI, c_ltI, c_leI, c_gtI, c_geI, o_addI, o_subI, n_I, abs_N, ix_tup, lift_some, at0, at1, at2, at3, asT_var, asT_tup, asTs_nil, asTs_cons, ctl_call, List.getElem?_cons_zero, List.getElem?_cons_succ, List.set_cons_zero, List.set_cons_succ, List.length_cons, List.length_nil, List.map_cons, List.map_nil, List.cons_append, List.nil_append, List.replicate_succ, List.replicate_zero, Nat.reduceAdd, Nat.reduceSub, Nat.reduceLT, Nat.reduceLeDiff, sz, Option.bind_some, Option.bind_none, Option.map_some, Bool.false_eq_true, if_true, if_false, reduceIte, Nat.zero_add, startE, Bool.not_true, Bool.not_false, decide_true, decide_false, y15, no, envE, envL, ix, t, n1]
theorem st5 (hm : Clo m) (h : Two p q) : evalS CC y5 (envE i e0 (rowD p) (rowD q) e4 e5 O L m.length e9 e10) (m ++ [.lst ((prodR p q).map encQ)]) = .nx (envE i e0 (rowD p) (rowD q) e4 e5 O L m.length e9 e10) (m ++ [.lst ((prodR p q).map encQ)]) := by
  obtain ⟨N, hN⟩ : ∃ N, N = m ++ [Cell.lst ((prodR p q).map encQ)] := ⟨_, rfl⟩
  have cN : Clo N := by rw [hN]; exact clo_more hm (encUL _)
  have cN1 : Clo (N ++ [.lst ((prodR p q).map encQ)]) := clo_more cN (encUL _)
  obtain ⟨N1, hN1⟩ : ∃ N1, N1 = N ++ [Cell.lst ((prodR p q).map encQ)] := ⟨_, rfl⟩
  rw [← hN1] at cN1
  rw [← hN]
  have t11 := c_prod cN h
  have gl : bltD .list [rowD (prodR p q)] N = .ok (.ref N.length) N1 := by rw [hN1]; rfl
  have hi : N1[N.length]? = some (.lst ((prodR p q).map encQ)) := by rw [hN1]; simp
  have hj : N1[m.length]? = some (.lst ((prodR p q).map encQ)) := by rw [hN1, hN]; simp
  have n1 := ne_refs hi hj
  have t8 := c_plus cN1 h
  have e3 : evalE (.blt .tuple [cP]) CC (envE i e0 (rowD p) (rowD q) e4 e5 O L m.length e9 e10) N1 = .ok (rowD (plusR p q)) (N1 ++ [.lst ((plusR p q).map encQ)]) := by
    have hw : wOks (plusW wp wp 6) = true := by decide +kernel
    have c1 := comp_rng (C := CC) (v := 4) (e := .call 2 [(.idx (.var 2) (.var 4)), (.idx (.var 3) (.var 4))]) (own := [4]) (env := envE i e0 (rowD p) (rowD q) e4 e5 O L m.length e9 e10) (m := N1) (n := 6) (g := fun k => encQ (p.getD k 0 + q.getD k 0)) (by simp [envE, envL]) (fun k hk => by
      have i1 := ixr (m := N1) (p := p) (k := k) (by rw [h.lp]; exact hk)
      have i2 := ixr (m := N1) (p := q) (k := k) (by rw [h.lq]; exact hk)
      have t2 : runF LL.prog 59 2 [encQ (p.getD k 0), encQ (q.getD k 0)] N1 = .ok (encQ (p.getD k 0 + q.getD k 0)) N1 := add_w (n := 56) parts f_add (h.hp k) (h.hq k) (ok_at hw hk)
      generalize encQ (p.getD k 0 + q.getD k 0) = Y at *
      generalize encQ (p.getD k 0) = Y1 at *
      generalize encQ (q.getD k 0) = Y2 at *
      generalize rowD p = P at *
      generalize rowD q = Q at *
      simp only [fin_rt, fin_nx, fin_exn, seq_nx, seq_rt, seq_exn, seq_bk, seq_ct, bind_ok, bind_exn, out_ok, out_exn, tst_ok, tst_exn, gc_ok_, gc_exn, gcM_same, asB_bl, selB_t, selB_f, selE_t, selE_f, rdV_some, stT_some, e_var, e_con, e_glo, e_nop, t_bin, t_neg, t_not, t_cmp, t_cmp2, cmp2T_t, cmp2T_f, t_and, t_or, t_if, t_idx, t_tup, t_lst, t_call, t_blt, t_mth, mthT_t, es_nil, ts_cons, b_nil, tb_cons, ts_asg, ts_expr, ts_if, ts_ret, s_rais, seqT_nx, seqT_rt, seqT_exn, seqT_bk, seqT_ct, bindT_ok, bindT_exn, outT_ok, outT_exn, tstT_ok, tstT_exn, asBT_bl, c_eqI, c_neI, c_ltI, c_leI, c_gtI, c_geI, o_addI, o_subI, n_I, abs_N, ix_tup, lift_some, at0, at1, at2, at3, asT_var, asT_tup, asTs_nil, asTs_cons, ctl_call, List.getElem?_cons_zero, List.getElem?_cons_succ, List.set_cons_zero, List.set_cons_succ, List.length_cons, List.length_nil, List.map_cons, List.map_nil, List.cons_append, List.nil_append, List.replicate_succ, List.replicate_zero, Nat.reduceAdd, Nat.reduceSub, Nat.reduceLT, Nat.reduceLeDiff, sz, Option.bind_some, Option.bind_none, Option.map_some, Bool.false_eq_true, if_true, if_false, reduceIte, Nat.zero_add, startE, Bool.not_true, Bool.not_false, decide_true, decide_false, wipeE, envE, envL, i1, i2, t2]) (by simp [wipeE])
    have r6 := r_lit (k := 6) (by decide) (env := envE i e0 (rowD p) (rowD q) e4 e5 O L m.length e9 e10) (m := N1)
    rw [show (((6 : Nat) : Nat) : Int) = 6 from rfl] at r6
    have e4 := blt_tuple_of (e_comp_of r6 c1 (by simp))
    have e5 : (List.range 6).map (fun k => encQ (p.getD k 0 + q.getD k 0)) = (plusR p q).map encQ := by
      unfold plusR
      rw [h.lp, List.map_map]
      rfl
    rw [e5] at e4
    exact e4
  have n2 := ne_row (p := plusR p q) (q := plusR p q) (m := N1 ++ [.lst ((plusR p q).map encQ)]) rfl
  have e1 : evalE (.blt .list [(.call 11 [(.var 2), (.var 3)])]) CC (envE i e0 (rowD p) (rowD q) e4 e5 O L m.length e9 e10) N = .ok (.ref N.length) N1 := by
    generalize rowD (prodR p q) = R at *
    generalize rowD p = P at *
    generalize rowD q = Q at *
    simp only [fin_rt, fin_nx, fin_exn, seq_nx, seq_rt, seq_exn, seq_bk, seq_ct, bind_ok, bind_exn, out_ok, out_exn, tst_ok, tst_exn, gc_ok_, gc_exn, gcM_same, asB_bl, selB_t, selB_f, selE_t, selE_f, rdV_some, stT_some, e_var, e_con, e_glo, e_nop, t_bin, t_neg, t_not, t_cmp, t_cmp2, cmp2T_t, cmp2T_f, t_and, t_or, t_if, t_idx, t_tup, t_lst, t_call, t_blt, t_mth, mthT_t, es_nil, ts_cons, b_nil, tb_cons, ts_asg, ts_expr, ts_if, ts_ret, s_rais, seqT_nx, seqT_rt, seqT_exn, seqT_bk, seqT_ct, bindT_ok, bindT_exn, outT_ok, outT_exn, tstT_ok, tstT_exn, asBT_bl, c_eqI, c_neI, c_ltI, c_leI, c_gtI, c_geI, o_addI, o_subI, n_I, abs_N, ix_tup, lift_some, at0, at1, at2, at3, asT_var, asT_tup, asTs_nil, asTs_cons, ctl_call, List.getElem?_cons_zero, List.getElem?_cons_succ, List.set_cons_zero, List.set_cons_succ, List.length_cons, List.length_nil, List.map_cons, List.map_nil, List.cons_append, List.nil_append, List.replicate_succ, List.replicate_zero, Nat.reduceAdd, Nat.reduceSub, Nat.reduceLT, Nat.reduceLeDiff, sz, Option.bind_some, Option.bind_none, Option.map_some, Bool.false_eq_true, if_true, if_false, reduceIte, Nat.zero_add, startE, Bool.not_true, Bool.not_false, decide_true, decide_false, envE, envL, t11, gl]
  have e2 : evalE (.call 8 [(.var 2), (.var 3)]) CC (envE i e0 (rowD p) (rowD q) e4 e5 O L m.length e9 e10) N1 = .ok (rowD (plusR p q)) N1 := by
    generalize rowD (plusR p q) = R at *
    generalize rowD p = P at *
    generalize rowD q = Q at *
    simp only [fin_rt, fin_nx, fin_exn, seq_nx, seq_rt, seq_exn, seq_bk, seq_ct, bind_ok, bind_exn, out_ok, out_exn, tst_ok, tst_exn, gc_ok_, gc_exn, gcM_same, asB_bl, selB_t, selB_f, selE_t, selE_f, rdV_some, stT_some, e_var, e_con, e_glo, e_nop, t_bin, t_neg, t_not, t_cmp, t_cmp2, cmp2T_t, cmp2T_f, t_and, t_or, t_if, t_idx, t_tup, t_lst, t_call, t_blt, t_mth, mthT_t, es_nil, ts_cons, b_nil, tb_cons, ts_asg, ts_expr, ts_if, ts_ret, s_rais, seqT_nx, seqT_rt, seqT_exn, seqT_bk, seqT_ct, bindT_ok, bindT_exn, outT_ok, outT_exn, tstT_ok, tstT_exn, asBT_bl, c_eqI, c_neI, c_ltI, c_leI, c_gtI, c_geI, o_addI, o_subI, n_I, abs_N, ix_tup, lift_some, at0, at1, at2, at3, asT_var, asT_tup, asTs_nil, asTs_cons, ctl_call, List.getElem?_cons_zero, List.getElem?_cons_succ, List.set_cons_zero, List.set_cons_succ, List.length_cons, List.length_nil, List.map_cons, List.map_nil, List.cons_append, List.nil_append, List.replicate_succ, List.replicate_zero, Nat.reduceAdd, Nat.reduceSub, Nat.reduceLT, Nat.reduceLeDiff, sz, Option.bind_some, Option.bind_none, Option.map_some, Bool.false_eq_true, if_true, if_false, reduceIte, Nat.zero_add, startE, Bool.not_true, Bool.not_false, decide_true, decide_false, envE, envL, t8]
  have e8 : evalE (.var 8) CC (envE i e0 (rowD p) (rowD q) e4 e5 O L m.length e9 e10) N1 = .ok (.ref m.length) N1 := by
    rw [e_var]
    rfl
  have g : gcM N.length (.bl false) (N1 ++ [.lst ((plusR p q).map encQ)]) = N := by
    rw [hN1, List.append_assoc]
    exact gcM_cut cN rfl
  generalize envE i e0 (rowD p) (rowD q) e4 e5 O L m.length e9 e10 = env at *
  unfold y5
  rw [s_if, e_or, e_cmp, e1, bind_ok, e8, bind_ok, n1, bind_ok, asB_bl, selE_f, e_cmp, e2, bind_ok, e3, bind_ok, n2, tst_ok, selB_f, b_nil, g]
end
theorem body_ok (E : Nat) (h1 : 31 ≤ E) (h2 : E ≤ 134217700) : BodyOk2 (LL.prog.ctl (runF LL.prog (57 + 2)) (runF LL.prog 57) (57 + 2)) bodyL d_law.N.length E := by
  intro env m i a0 b0 z hl hi hm hg hd
  show ∃ (env' : EnvD) (m' : Mem), env'.length = 11 ∧ evalB CC bodyL env m = .nx env' m' ∧ Clo m' ∧ (∀ j, j < m.length → j ≠ i → m'[j]? = m[j]?) ∧ m.length ≤ m'.length
  obtain ⟨e0, e2, e3, e4, e5, e6, e7, e8, e9, e10, rfl⟩ : ∃ e0 e2 e3 e4 e5 e6 e7 e8 e9 e10, env = envL i e0 e2 e3 e4 e5 e6 e7 e8 e9 e10 := by
    match env, (show env.length = 11 from hl) with
    | [e0, e1, e2, e3, e4, e5, e6, e7, e8, e9, e10], _ =>
      have : e1 = some (.ref i) := by simpa using hi
      subst this
      exact ⟨e0, e2, e3, e4, e5, e6, e7, e8, e9, e10, rfl⟩
  have A0 : At E i 0 m m := At.start hg hd
  obtain ⟨p, q, m1, lp, lq, hp, hq, A1, q1⟩ := st1 (e0 := e0) (e2 := e2) (e3 := e3) (e4 := e4) (e5 := e5) (e6 := e6) (e7 := e7) (e8 := e8) (e9 := e9) (e10 := e10) h1 h2 A0 (by decide) hm
  have h : Two p q := ⟨hp, hq, lp, lq⟩
  have c1 : Clo (m1 ++ [.lst (p.map encQ), .lst (q.map encQ), .lst [rowD p, rowD q]]) := by
    have a := clo_more (A1.clo hm) (encUL p)
    have b := clo_more a (encUL q)
    have c := clo_more b (l := [rowD p, rowD q]) (by simp only [D.undrL, rowU]; rfl)
    simpa using c
  obtain ⟨M, hM⟩ : ∃ M, M = m1 ++ [Cell.lst (p.map encQ), .lst (q.map encQ), .lst [rowD p, rowD q]] := ⟨_, rfl⟩
  rw [← hM] at q1 c1
  have q2 := st_y1 (i := i) (e0 := e0) (e4 := e4) (e5 := e5) (e6 := e6) (e7 := e7) (e8 := e8) (e9 := e9) (e10 := e10) (p := p) (q := q) c1
  have q3 := st_y2 (i := i) (e0 := e0) (e4 := e4) (e5 := e5) (e8 := e8) (e9 := e9) (e10 := e10) (p := p) (q := q) (m := M)
  obtain ⟨o4, o9, o10, q4⟩ := st_y3 (i := i) (e0 := e0) (e4 := e4) (e5 := e5) (e9 := e9) (e10 := e10) (m := M) hp hq lp lq
  rw [envD_eq, envD_eq] at q4
  have q5 := st5 (i := i) (e0 := e0) (e4 := o4) (e5 := e5) (e9 := o9) (e10 := o10) (O := rowD (cutR [1] 6)) (L := rowD (cutR [0, 1] 6)) c1 h
  obtain ⟨N, hN⟩ : ∃ N, N = M ++ [Cell.lst ((prodR p q).map encQ)] := ⟨_, rfl⟩
  have cN : Clo N := by rw [hN]; exact clo_more c1 (encUL _)
  have eN : N = m1 ++ [.lst (p.map encQ), .lst (q.map encQ), .lst [rowD p, rowD q], .lst ((prodR p q).map encQ)] := by rw [hN, hM]; simp
  rw [← hN] at q4 q5
  obtain ⟨p0, p1, p2, p3, p4, p5, ep⟩ := six lp
  obtain ⟨x0, x1, x2, x3, x4, x5, eq⟩ := six lq
  have ix : idxD (rowD p) (.int 0) N = .ok (encQ (p.getD 0 0)) N := ixr (m := N) (p := p) (k := 0) (by omega)
  have t7 : runF LL.prog 59 7 [.tup [], .int 6] N = .ok (rowD (cutR [] 6)) N := cut_ok (n := 58) cN [] (N := 6) (by decide)
  have t10 := c_scaled0 cN h
  rw [enc0] at t10
  have q6 := y6_any (i := i) (e0 := e0) (e4 := o4) (e5 := e5) (e9 := o9) (e10 := o10) (O := rowD (cutR [1] 6)) (L := rowD (cutR [0, 1] 6)) (k := M.length) (c_plus cN h) (c_minus cN h) (ne_row (by rw [ep, eq]; exact minus_plus)) t10 t7 (ne_row (by rw [ep]; exact scaled_zero))
  have q7 := y7_any (i := i) (e0 := e0) (e4 := o4) (e5 := e5) (e9 := o9) (e10 := o10) (Q := rowD q) (O := rowD (cutR [1] 6)) (L := rowD (cutR [0, 1] 6)) (k := M.length) ix ix0 (fun ha => y7a_any (back_exn (n := 56) (Rat.num_eq_zero.mp ha) h.ne)) (fun ha => by
    have h0 : p.getD 0 0 ≠ 0 := fun z => ha (by rw [z]; rfl)
    exact y7b_any (c_back cN h h0) (c_prodback cN h h0) (ne_row (by
      rw [ep] at h0 ⊢
      exact prod_back h0)) ix (c_quo cN h h0) (c_scaledback cN h h0) (ne_row (by
      rw [ep] at h0 ⊢
      exact quo_scaled h0)))
  have t14 := c_sums5 cN h
  have e5' : encQ 5 = .tup [.int 5, .int 1] := by
    have e1 : (5 : Rat).num = 5 := by decide +kernel
    have e2 : (5 : Rat).den = 1 := by decide +kernel
    unfold encQ
    rw [e1, e2]
    rfl
  rw [e5'] at t14
  have q8 := y8_any (i := i) (e0 := e0) (e4 := o4) (e5 := e5) (e9 := o9) (e10 := o10) (Q := rowD q) (O := rowD (cutR [1] 6)) (L := rowD (cutR [0, 1] 6)) (k := M.length) t14 (c_slopesums cN h) (ne_row (by rw [ep]; exact slope_sums)) ix (c_slope cN h) (c_sumsslope cN h) (ne_row (by rw [ep]; exact sums_slope))
  have t28 : runF LL.prog 59 28 [rowD p, rowD q, rowD (cutR [1] 6), rowD (cutR [0, 1] 6)] N = .ok (.bl true) N := by
    have hp' := hp
    have hq' := hq
    rw [ep] at hp' ⊢
    rw [eq] at hq' ⊢
    exact inner_ok cN hp' hq'
  have q9 := y9_any (i := i) (e0 := e0) (e4 := o4) (e5 := e5) (e9 := o9) (e10 := o10) (k := M.length) t28
  have hp' := hp
  rw [ep] at hp'
  obtain ⟨m2, A2, t29⟩ := powers_ok (ext := [.lst (p.map encQ), .lst (q.map encQ), .lst [rowD p, rowD q], .lst ((prodR p q).map encQ)]) h1 h2 A1 (by decide) (by rw [← eN]; exact cN) hp'
  rw [← ep, ← eN] at t29
  obtain ⟨N2, hN2⟩ : ∃ N2, N2 = m2 ++ [Cell.lst (p.map encQ), .lst (q.map encQ), .lst [rowD p, rowD q], .lst ((prodR p q).map encQ)] := ⟨_, rfl⟩
  have cN2 : Clo N2 := by rw [hN2]; exact clo_app A1 A2 (by rw [← eN]; exact cN)
  rw [← hN2] at t29
  have gN : ∀ a, gcM N.length a N2 = N2 := fun a => by
    rw [show N.length = N2.length by rw [eN, hN2]; simp [A1.len, A2.len], gcM_same]
  have q10 := y10_any (e0 := e0) (Q := rowD q) (e4 := o4) (e5 := e5) (e9 := o9) (e10 := o10) (O := rowD (cutR [1] 6)) (L := rowD (cutR [0, 1] 6)) (k := M.length) t29 gN
  have z1 : (cutR [1] 6).getD 0 0 ≠ 0 := by rw [one6]; decide
  have q11 := y11_any (i := i) (e0 := e0) (Q := rowD q) (e4 := o4) (e5 := e5) (e9 := o9) (e10 := o10) (L := rowD (cutR [0, 1] 6)) (k := M.length) (put_exn (n := 56) (p := p) (m := N2) z1)
  have q12 := y12_any (i := i) (e0 := e0) (P := rowD p) (Q := rowD q) (e4 := o4) (e5 := e5) (e9 := o9) (e10 := o10) (L := rowD (cutR [0, 1] 6)) (k := M.length) (exp_exn (n := 56) (m := N2) z1)
  have q13 := y13_any (i := i) (e0 := e0) (P := rowD p) (Q := rowD q) (e4 := o4) (e5 := e5) (e9 := o9) (e10 := o10) (O := rowD (cutR [1] 6)) (k := M.length) (log_exn (n := 56) (p := cutR [0, 1] 6) (m := N2) (by rw [line6]; decide) (by rw [line6]; simp))
  have q14 := y14_any (i := i) (e0 := e0) (P := rowD p) (Q := rowD q) (e4 := o4) (e5 := e5) (e9 := o9) (e10 := o10) (L := rowD (cutR [0, 1] 6)) (k := M.length) (turned_exn (n := 56) (m := N2) z1 (by decide))
  have ix2 : idxD (rowD p) (.int 0) N2 = .ok (encQ (p.getD 0 0)) N2 := ixr (m := N2) (p := p) (k := 0) (by omega)
  have t3 : runF LL.prog 59 3 [encQ (p.getD 0 0), encQ (p.getD 0 0)] N2 = .ok (encQ 0) N2 := by
    have e := less_w (n := 56) (m := N2) parts f_less (hp 0) (hp 0) (by decide)
    rw [show p.getD 0 0 - p.getD 0 0 = 0 by grind] at e
    exact e
  have q15 := y15_any (i := i) (e0 := e0) (Q := rowD q) (e4 := o4) (e5 := e5) (e9 := o9) (e10 := o10) (O := rowD (cutR [1] 6)) (L := rowD (cutR [0, 1] 6)) (k := M.length) ix2 t3 (by
    have := ne_encs (p := 0) (q := 0) (m := N2)
    exact this)
  refine ⟨envE i e0 (rowD p) (rowD q) o4 e5 (rowD (cutR [1] 6)) (rowD (cutR [0, 1] 6)) M.length o9 o10, N2, ?_, ?_, cN2, fun j hj hji => ?_, ?_⟩
  · rfl
  · rw [bodyL_eq, b_cons, q1, seq_nx, b_cons, q2, seq_nx, b_cons, q3, seq_nx, b_cons, envD_eq, q4, seq_nx, b_cons, q5, seq_nx, b_cons, q6, seq_nx, b_cons, q7, seq_nx, b_cons, q8, seq_nx, b_cons, q9, seq_nx, b_cons, q10, seq_nx, b_cons, q11, seq_nx, b_cons, q12, seq_nx, b_cons, q13, seq_nx, b_cons, q14, seq_nx, b_cons, q15, seq_nx, b_nil]
  · rw [hN2, List.getElem?_append_left (by rw [A2.len]; exact hj)]
    exact A2.ne (fun z => hji z.symm)
  · rw [hN2, List.length_append, A2.len]
    omega
theorem hR : LL.prog.fns[24]? = some ⟨2, 4, irRounds 22⟩ := fnA (d := d__law_rounds) rfl
theorem hD : LL.prog.fns[22]? = some ⟨1, 1, irDice⟩ := fnA (d := d__law_dice) rfl
theorem hL : LL.prog.fns[30]? = some ⟨1, d_law.N.length, [(.forS (.var 1) (.seq (.call 24 [(.var 0), (.con (.int ((3 : Nat) : Int)))])) bodyL), (.ret (.con (.bl true)))]⟩ := fnA (d := d_law) rfl
theorem plain : Plain LL (57 + 3) 63 30 := plain_of2 (n := 57) (iR := 24) (iD := 22) (most := 3) hR hD hL (by decide) (by decide) body_ok
end Dat.K16

set_option linter.all false
set_option maxRecDepth 100000
set_option maxHeartbeats 0
namespace Dat.K16
open PySem PySem.Spec L2 PyProof.Rows Dat
def names0 : List PySem.Str := ["RealFault", "BadNumber", "BadTerm", "NoWay", "TooLarge", "shared", "made", "add", "less", "times", "over", "turned", "cut", "plus_row", "minus_row", "scaled_row", "product_row", "back_row", "slope_row", "sums_row", "put_row", "turned_row", "exp_row", "log_row", "power_row", "root_row", "of_quotient", "_law_dice", "_law_roll", "_law_rounds"]
def names1 : List PySem.Str := ["_law_told", "_law_gcd", "_law_part", "_law_inner", "_law_powers"]
def names : List PySem.Str := names0 ++ names1
abbrev R0 : PySem.W.OpenRow := PySem.W.OpenLaw.row PySem.Challenge.rw_realhall_k16_rows_of_parts
abbrev hk : PySem.W.Hook := He.hookX 5 LL.fa LL.fn [] LL.tf LL.exB
def ob (s : PySem.W.SharedT) : He.AlX := He.obsX 5 LL.fa LL.fn [] LL.tf LL.exB (HandSHeadRun.getT s)
theorem ob_eq (s : PySem.W.SharedT) : ob s = hk.obs s.abs := He.obsX_eq (HandSHeadRun.getT_eq s)
theorem run0 (w : World) : HandSHeadRun.RunEq R0 (PySem.W.view R0.prog [39]) hk ob 20000 names w := by
  intro os
  kernel_rfl
theorem sc_all : LL.defs.all (defB LL 0) = true := by decide +kernel
theorem comp_all : AllC LL 60 LL.defs :=
  .cons (by first | exact .inl rfl | exact .inr (by rfl)) <|
  .cons (by first | exact .inl rfl | exact .inr (by rfl)) <|
  .cons (by first | exact .inl rfl | exact .inr (by rfl)) <|
  .cons (by first | exact .inl rfl | exact .inr (by rfl)) <|
  .cons (by first | exact .inl rfl | exact .inr (by rfl)) <|
  .cons (by first | exact .inl rfl | exact .inr (by rfl)) <|
  .cons (by first | exact .inl rfl | exact .inr (by rfl)) <|
  .cons (by first | exact .inl rfl | exact .inr (by rfl)) <|
  .cons (by first | exact .inl rfl | exact .inr (by rfl)) <|
  .cons (by first | exact .inl rfl | exact .inr (by rfl)) <|
  .cons (by first | exact .inl rfl | exact .inr (by rfl)) <|
  .cons (by first | exact .inl rfl | exact .inr (by rfl)) <|
  .cons (by first | exact .inl rfl | exact .inr (by rfl)) <|
  .cons (by first | exact .inl rfl | exact .inr (by rfl)) <|
  .cons (by first | exact .inl rfl | exact .inr (by rfl)) <|
  .cons (by first | exact .inl rfl | exact .inr (by rfl)) <|
  .cons (by first | exact .inl rfl | exact .inr (by rfl)) <|
  .cons (by first | exact .inl rfl | exact .inr (by rfl)) <|
  .cons (by first | exact .inl rfl | exact .inr (by rfl)) <|
  .cons (by first | exact .inl rfl | exact .inr (by rfl)) <|
  .cons (by first | exact .inl rfl | exact .inr (by rfl)) <|
  .cons (by first | exact .inl rfl | exact .inr (by rfl)) <|
  .cons (by first | exact .inl rfl | exact .inr (by rfl)) <|
  .cons (by first | exact .inl rfl | exact .inr (by rfl)) <|
  .cons (by first | exact .inl rfl | exact .inr (by rfl)) <|
  .cons (by first | exact .inl rfl | exact .inr (by rfl)) <|
  .cons (by first | exact .inl rfl | exact .inr (by rfl)) <|
  .cons (by first | exact .inl rfl | exact .inr (by rfl)) <|
  .cons (by first | exact .inl rfl | exact .inr (by rfl)) <|
  .cons (by first | exact .inl rfl | exact .inr (by rfl)) <|
  .cons (by first | exact .inl rfl | exact .inr (by rfl)) <|
  .nil
theorem ck : Checked LL 60 := ⟨fun d hd => defB_sc (List.all_eq_true.mp sc_all d hd), allB.at_, comp_all.at_⟩
theorem told_all : LL.toldB = true := by decide +kernel
theorem glo_all : LL.gloB = true := by decide +kernel
end Dat.K16
open PySem PySem.W PySem.Calls PyProof.Rows
theorem PySem.Challenge.cw_realhall_k16_rows_of_parts_holds : PySem.Challenge.rw_realhall_k16_rows_of_parts.Holds := by
  w_on; o_law
  refine HandSHeadRun.head_any (r := OpenLaw.row PySem.Challenge.rw_realhall_k16_rows_of_parts) (q := view (OpenLaw.row PySem.Challenge.rw_realhall_k16_rows_of_parts).prog [39]) (H := Dat.K16.hk) (ob := Dat.K16.ob) (M := 20000) (loose := Dat.K16.names) (d := HandSHeadRun.topDef (OpenLaw.row PySem.Challenge.rw_realhall_k16_rows_of_parts).prog 39) (kwd := []) Dat.K16.ob_eq
    (by kernel_rfl) (fun s => by kernel_rfl) Dat.K16.run0 (by kernel_rfl) (by kernel_rfl) (by kernel_rfl) (by rfl) (by first | assumption | decide +kernel) (by decide +kernel) ⟨rfl, rfl, rfl, rfl, rfl, by decide +kernel⟩ ?hw ?hc
  case hw => w_witness2
  case hc =>
    refine LamX.walk_ofTsE (l := PySem.Challenge.rw_realhall_k16_rows_of_parts) (n := 63) (k := 60) (x := "script") (CX := fun w => L2.CX (PySem.Challenge.rw_realhall_k16_rows_of_parts).prog w) rfl (by decide) (by kernel_rfl) ⟨rfl, by decide, by decide⟩ ?F (fun _ _ _ _ _ ⟨_, _, _, _, _, _, _, _, _, _, _, _, z⟩ => z)
    intro w mg fa h Y G hmg0
    obtain ⟨K, KX, c⟩ := Y
    have hmg : mg (Dat.K16.d_law).name = some (.ref fa) := by
      have e : (HandSHeadRun.topDef (OpenLaw.row PySem.Challenge.rw_realhall_k16_rows_of_parts).prog 39).name = (Dat.K16.d_law).name := by kernel_rfl
      rw [← e]
      exact hmg0
    exact ⟨K, KX, Dat.law_at (i := Dat.K16.nLaw) Dat.K16.ck Dat.K16.told_all Dat.K16.glo_all rfl rfl hmg KX G c Dat.K16.plain⟩

