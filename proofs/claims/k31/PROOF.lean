import PyProof.Rows.All
import KE.KStateDown
import HandS.Head0
import HandS.Head1
import HandS.Head2
import HandS.HeadEnd
import PySem.Challenge.RW_realhall_k31_refusals_apart
import HandS.Call
import PyProof.TwoTypesSub
import HandS.ForMost
import HandS.ForExc
import HandS.WideBits
import HandS.Deep
import HandS.TryMany
import HandS.ExcInit
import HandS.SuiteRaise
import HandS.Lambda
import HandS.Style
import HandS.TupAny
import HandS.TupMul
import HandS.Zip
import HandS.Rev
import HandS.Wide
import HandS.Conv
import HandS.HeadHook4
import PyProof.StrOps2
import KE.GoesEnum
import KE.GoesMore
import PyProof.EnumMake
import HandS.RevTup
import PyProof.ListNew
import KE.KDictZip
import KE.KTurns
import PyProof.TupleOfGen
import HandS.NoneIn
import HandS.Nested
import HandS.AnyAll
import HandS.IsInst
import HandS.Spec
import KE.SortUse
import HandS.SortKw
import HandS.HeadWalk
import HandS.NestedK
import KE.KExcSuper
import KE.KExcIs
import HandS.ExcIs
set_option Elab.async false
set_option exponentiation.threshold 10000
/-! DatBs -/
set_option linter.all false
/-! DatBs: one truth value less another. -/
namespace TB
open PySem PySem.Spec L2
def bsub (a b : Bool) : Int := (if a = true then 1 else 0) - (if b = true then 1 else 0)
theorem gives_bb (a b : Bool) : Gives (Builtin.«int.__sub__» ⟨[.bool a, .bool b], []⟩) (.int (bsub a b)) := by cases a <;> cases b <;> exact .of_eq rfl
theorem sub_bb {prog : Program} {w : World} {A : Around} {E : Value → Shared → Prop} {s : Shared} {a b : Bool} {Q : Value → Shared → Prop} (h : Q (.int (bsub a b) s.toks) { s with toks := s.toks + 1 }) : wpAny (model prog w) A (binaryOp .Sub (.bool a) (.bool b)) Q E s :=
  binaryOp_gives (op := .Sub) (T := "bool") rfl rfl F.fills_bool_sub F.slot_bool_sub F.entry_int_sub (F.args_int_sub_2 _ _) (gives_bb a b) trivial h
theorem op_subB {X : Cx} : OpR X (binaryOp .Sub) (fun x y H Q => ∃ a b, x = V.bl a ∧ y = V.bl b ∧ Q (.int (bsub a b)) H) := by
  intro pins s σ H x y v u Q I rx ry h
  obtain ⟨a, b, rfl, rfl, q⟩ := h
  cases rx
  cases ry
  exact sub_bb ⟨.int (bsub a b), H, I.tok _, ⟨_, rfl⟩, q⟩
end TB

/-! Dat1 -/
set_option linter.all false
set_option maxRecDepth 100000
/-! Dat1: plain data, the small language IE / IS, what it computes. -/
namespace Dat
open PySem L2

/-- plain data: tuples by value, lists and objects by their place in the store -/
inductive D where
  | non | bl (b : Bool) | int (i : Int) | str (x : Str) | tup (l : List D) | fro (l : List D) | ref (i : Nat)

inductive Cell where
  | lst (l : List D)
  | ins (c : Str) (fs : List (Str × D))
  | dct (l : List (Key × D))
abbrev Mem := List Cell
mutual
def D.beq : D → D → Bool
  | .non, .non => true
  | .bl a, .bl b => a == b
  | .int a, .int b => a == b
  | .str a, .str b => decide (a = b)
  | .tup a, .tup b => D.beqL a b
  | .fro a, .fro b => D.beqL a b
  | .ref a, .ref b => a == b
  | _, _ => false
def D.beqL : List D → List D → Bool
  | [], [] => true
  | a :: l, b :: k => D.beq a b && D.beqL l k
  | _, _ => false
end
mutual
theorem D.beq_iff : ∀ a b : D, D.beq a b = true ↔ a = b
  | .non, b => by cases b <;> simp [D.beq]
  | .bl _, b => by cases b <;> simp [D.beq]
  | .int _, b => by cases b <;> simp [D.beq]
  | .str _, b => by cases b <;> simp [D.beq]
  | .tup l, b => by cases b <;> simp [D.beq, D.beqL_iff l]
  | .fro l, b => by cases b <;> simp [D.beq, D.beqL_iff l]
  | .ref _, b => by cases b <;> simp [D.beq]
theorem D.beqL_iff : ∀ a b : List D, D.beqL a b = true ↔ a = b
  | [], b => by cases b <;> simp [D.beqL]
  | x :: l, b => by cases b <;> simp [D.beqL, D.beq_iff x, D.beqL_iff l]
end
abbrev EnvD := List (Option D)

mutual
/-- all places named lie below n -/
def D.undr (n : Nat) : D → Bool
  | .tup l => D.undrL n l
  | .fro l => D.undrL n l
  | .ref i => decide (i < n)
  | _ => true
def D.undrL (n : Nat) : List D → Bool
  | [] => true
  | d :: l => D.undr n d && D.undrL n l
end
def Cell.undr (n : Nat) : Cell → Bool
  | .lst l => D.undrL n l
  | .ins _ fs => fs.all fun p => p.2.undr n
  | .dct l => l.all fun p => p.2.undr n

/-! ### data that can be compared -/
mutual
def toPy0 : D → Option PyData
  | .non => some .none
  | .bl b => some (.bool b)
  | .int i => some (.int i)
  | .str x => some (.str x)
  | .tup l => (toPy0L l).map .tuple
  | .fro l => (toPy0L l).map .list
  | .ref _ => none
def toPy0L : List D → Option (List PyData)
  | [] => some []
  | d :: l => match toPy0 d, toPy0L l with
    | some x, some xs => some (x :: xs)
    | _, _ => none
end
def toPyA (m : Mem) : D → Option PyData
  | .ref i => match m[i]? with
    | some (.lst l) => (toPy0L l).map .list
    | _ => none
  | d => toPy0 d
def toPyAL (m : Mem) : List D → Option (List PyData)
  | [] => some []
  | d :: l => match toPyA m d, toPyAL m l with
    | some x, some xs => some (x :: xs)
    | _, _ => none
/-- lists in lists, two deep -/
def toPy (m : Mem) : D → Option PyData
  | .ref i => match m[i]? with
    | some (.lst l) => (toPyAL m l).map .list
    | _ => none
  | d => toPy0 d
theorem toPyA_of {m : Mem} {d : D} {p : PyData} (h : toPy0 d = some p) : toPyA m d = some p := by
  cases d with
  | ref i => cases h
  | _ => exact h
theorem toPyAL_of {m : Mem} : ∀ {l : List D} {p : List PyData}, toPy0L l = some p → toPyAL m l = some p
  | [], p, h => h
  | d :: l, p, h => by
    simp only [toPy0L] at h
    split at h
    · rename_i x xs h1 h2
      cases h
      simp only [toPyAL, toPyA_of h1, toPyAL_of h2]
    · cases h
theorem toPy_lst {m : Mem} {i : Nat} {l : List D} {p : List PyData} (h : m[i]? = some (.lst l)) (hp : toPy0L l = some p) : toPy m (.ref i) = some (.list p) := by
  simp only [toPy, h, toPyAL_of hp, Option.map_some]
def eqD (m : Mem) (x y : D) : Option Bool := match toPy m x, toPy m y with
  | some a, some b => if SeqAt.shaped a = true ∧ SeqAt.shaped b = true then some (PyData.eqv a b) else none
  | _, _ => none

/-! ### outcomes -/
inductive Res (α : Type) where
  | ok (a : α) (m : Mem)
  | exn (c : Str) (p : Option D) (m : Mem)
  | stuck
def Res.bind {α β : Type} (r : Res α) (f : α → Mem → Res β) : Res β := match r with
  | .ok a m => f a m
  | .exn c p m => .exn c p m
  | .stuck => .stuck
/-- what nothing names any more is forgotten -/
def gcM (n : Nat) (a : D) (m : Mem) : Mem := if a.undr n = true ∧ (∀ c ∈ m.take n, c.undr n = true) then m.take n else m
def Res.gc (n : Nat) (r : Res D) : Res D := match r with
  | .ok a m => .ok a (gcM n a m)
  | r => r

/-! ### operations -/
def liftO {α : Type} (m : Mem) : Option α → Res α
  | some a => .ok a m
  | none => .stuck
def MulG (i j : Int) : Prop := (Builtin.Int.intBits i : Int) + (Builtin.Int.intBits j : Int) ≤ 134217728
def DivG (i j : Int) : Prop := j ≠ 0 ∧ Builtin.divisionGoesByPylong i j = false
def PowG (i j : Int) : Prop := 0 ≤ j ∧ j ≤ 1000000 ∧ i.natAbs < 2 ^ 64
instance (i j : Int) : Decidable (MulG i j) := inferInstanceAs (Decidable (_ ≤ _))
instance (i j : Int) : Decidable (DivG i j) := inferInstanceAs (Decidable (_ ∧ _))
instance (i j : Int) : Decidable (PowG i j) := inferInstanceAs (Decidable (_ ∧ _ ∧ _))
def addD (x y : D) (m : Mem) : Res D := match x, y with
  | .int i, .int j => .ok (.int (i + j)) m
  | .str a, .str b => if a.length + b.length ≤ sizeLine then .ok (.str (a ++ b)) m else .stuck
  | .tup a, .tup b => if a.length + b.length ≤ sizeLine then .ok (.tup (a ++ b)) m else .stuck
  | .ref i, .ref j => match m[i]?, m[j]? with
    | some (.lst a), some (.lst b) => if a.length + b.length ≤ sizeLine then .ok (.ref m.length) (m ++ [.lst (a ++ b)]) else .stuck
    | _, _ => .stuck
  | _, _ => .stuck
def mulD (x y : D) (m : Mem) : Res D := match x, y with
  | .int i, .int j => if MulG i j then .ok (.int (i * j)) m else .stuck
  | .str _, .int k => if -(2 ^ 63) ≤ k ∧ k < 1 then .ok (.str Str.empty) m else .stuck
  | .tup a, .int k => if a ≠ [] ∧ 2 ≤ k ∧ k ≤ 1000 ∧ a.length ≤ 1000 then .ok (.tup (List.replicate k.toNat a).flatten) m else .stuck
  | .ref i, .int k => match m[i]? with
    | some (.lst a) => if -(2 ^ 63) ≤ k ∧ k < 2 ^ 63 ∧ a.length * k.toNat ≤ sizeLine then .ok (.ref m.length) (m ++ [.lst (List.replicate k.toNat a).flatten]) else .stuck
    | _ => .stuck
  | _, _ => .stuck
def binD (op : Operator) (x y : D) (m : Mem) : Res D := match op with
  | .Add => addD x y m
  | .Mult => mulD x y m
  | .Sub => match x, y with
    | .int i, .int j => .ok (.int (i - j)) m
    | .bl a, .bl b => .ok (.int (TB.bsub a b)) m
    | _, _ => .stuck
  | .FloorDiv => match x, y with
    | .int i, .int j => if DivG i j then .ok (.int (i.fdiv j)) m else .stuck
    | _, _ => .stuck
  | .Mod => match x, y with
    | .int i, .int j => if j ≠ 0 then .ok (.int (i.fmod j)) m else .stuck
    | _, _ => .stuck
  | .Pow => match x, y with
    | .int i, .int j => if PowG i j then .ok (.int (i ^ j.toNat)) m else .stuck
    | _, _ => .stuck
  | _ => .stuck
def cmpI (op : CmpOp) (i j : Int) : Option Bool := match op with
  | .Lt => some (decide (i < j))
  | .LtE => some (decide (i ≤ j))
  | .Gt => some (decide (j < i))
  | .GtE => some (decide (j ≤ i))
  | _ => none
/-- an int, a text, a truth value or None -/
def D.scalar : D → Bool
  | .non | .bl _ | .int _ | .str _ => true
  | _ => false
def inD (m : Mem) (x y : D) : Option Bool := match y with
  | .tup l => match toPy m x, toPy0L l with
    | some a, some bs => if SeqAt.shaped a = true ∧ SeqAt.shaped (.list bs) = true then some (bs.any fun z => PyData.eqv z a) else none
    | _, _ => none
  | .ref i => match m[i]? with
    | some (.lst l) => match toPy m x, toPy0L l with
      | some a, some bs => if SeqAt.shaped a = true ∧ SeqAt.shaped (.list bs) = true then some (bs.any fun z => PyData.eqv z a) else none
      | _, _ => none
    | _ => none
  | _ => none
def isD (x y : D) : Option Bool := match x, y with
  | .non, .non => some true
  | _, .non => some false
  | .bl a, .bl b => some (decide (a = b))
  | _, _ => none
def cmpD (op : CmpOp) (x y : D) (m : Mem) : Res D := match op with
  | .Eq => liftO m ((eqD m x y).map .bl)
  | .NotEq => liftO m ((eqD m x y).map fun b => .bl (!b))
  | .Is => liftO m ((isD x y).map .bl)
  | .IsNot => liftO m ((isD x y).map fun b => .bl (!b))
  | .In => liftO m ((inD m x y).map .bl)
  | .NotIn => liftO m ((inD m x y).map fun b => .bl (!b))
  | op => match x, y with
    | .int i, .int j => liftO m ((cmpI op i j).map .bl)
    | _, _ => .stuck
/-- items of a list or a tuple -/
def seqD (m : Mem) : D → Option (List D)
  | .tup l => some l
  | .fro l => some l
  | .ref i => match m[i]? with
    | some (.lst l) => some l
    | _ => none
  | _ => none
/-- the items of a list -/
def lstD (m : Mem) : D → Option (List D)
  | .fro l => some l
  | .ref i => match m[i]? with
    | some (.lst l) => some l
    | _ => none
  | _ => none
def prD (p : D × D) : D := .tup [p.1, p.2]
/-- tuple(zip(x, y)), lists -/
def tzipD (x y : D) (m : Mem) : Res D := match lstD m x with
  | some l => match lstD m y with
    | some k => .ok (.tup ((l.zip k).map prD)) m
    | none => .stuck
  | none => .stuck
/-- the key p * c // q of a part -/
def kq (c : Int) : D → Option Int
  | .tup [.int p, .int d] => if MulG p c ∧ DivG (p * c) d then some ((p * c).fdiv d) else none
  | _ => none
def keysQ (c : Int) : List D → Option (List (D × Int))
  | [] => some []
  | x :: l => match kq c x with
    | some k => (match keysQ c l with
      | some r => some ((x, k) :: r)
      | none => none)
    | none => none
def leQ {α : Type} (x y : α × Int) : Bool := decide (x.2 ≤ y.2)
def sortQ (c : Int) (l : List D) : Option (List D) := (keysQ c l).map fun bs => (bs.mergeSort leQ).map Prod.fst
def srtD (c : Int) (x : D) (m : Mem) : Res D := match lstD m x with
  | some l => (match sortQ c l with
    | some r => .ok (.ref m.length) (m ++ [.lst r])
    | none => .stuck)
  | none => .stuck
def idxD (x y : D) (m : Mem) : Res D := match x, y with
  | .str z, .int i => if z.length ≤ sizeLine then liftO m ((atI z.cps.toList i).map fun c => .str ⟨#[c]⟩) else .stuck
  | x, .int i => match seqD m x with
    | some l => liftO m (atI l i)
    | none => .stuck
  | _, _ => .stuck
def partD (b : Bool) (d : D) : Option (Option Int) := if b = true then (match d with
  | .int i => some (some i)
  | _ => none) else some none
def cutD (xs : List D) (lo hi : Option Int) : List D := (xs.drop (HT.sIx xs.length 0 lo)).take (HT.sIx xs.length xs.length hi - HT.sIx xs.length 0 lo)
def slcD (x : D) (l h : Option Int) (m : Mem) : Res D := match x with
  | .tup a => .ok (.tup (cutD a l h)) m
  | .fro a => .ok (.ref m.length) (m ++ [.lst (cutD a l h)])
  | .ref i => match m[i]? with
    | some (.lst a) => .ok (.ref m.length) (m ++ [.lst (cutD a l h)])
    | _ => .stuck
  | _ => .stuck

/-! ### the language -/
inductive Tg where
  | var (i : Nat)
  | tup (l : List Tg)
inductive Blt where
  | abs | len | int | str | list | tuple | min2 | max2 | tzip | srtQ (c : Int)
  deriving DecidableEq
inductive Mth where
  | append | pop | popAt | insert | extend
  deriving DecidableEq
mutual
inductive IE where
  | var (i : Nat)
  | con (d : D)
  | glo (x : Str) (d : D)
  | nop
  | bin (op : Operator) (a b : IE)
  | neg (a : IE)
  | notE (a : IE)
  | cmp (op : CmpOp) (a b : IE)
  | cmp2 (o1 o2 : CmpOp) (a b c : IE)
  | andE (a b : IE)
  | orE (a b : IE)
  | ifE (c a b : IE)
  | idx (a b : IE)
  | slc (bl bh : Bool) (a lo hi : IE)
  | tup (l : List IE)
  | lst (l : List IE)
  | call (f : Nat) (l : List IE)
  | blt (b : Blt) (l : List IE)
  | mth (k : Mth) (o : IE) (l : List IE)
  | comp (tg : Tg) (it : II) (c e : IE) (own : List Nat)
  | comp2 (tg : Tg) (it : II) (tg1 : Tg) (v1 : Nat) (e : IE) (own vs1 : List Nat)
  | told (f : Nat) (e : IE)
  | lrev (e : IE)
  | anyNI (e : IE)
  | isT (e : IE)
  | anyL (e : IE)
inductive II where
  | seq (e : IE)
  | rng1 (l : List IE)
  | rng (l : List IE)
  | rev (e : IE)
  | enm (e : IE)
  | zip (l : List IE)
end
inductive IS where
  | expr (e : IE)
  | asg (t : Tg) (e : IE)
  | aug (i : Nat) (op : Operator) (e : IE)
  | setI (o i e : IE)
  | ifS (c : IE) (a b : List IS)
  | whl (c : IE) (b : List IS)
  | forS (t : Tg) (it : II) (b : List IS)
  | ret (e : IE)
  | retN
  | rais (c : Str)
  | pass | brk | cnt
  | fgt (vs : List Nat)
  | set2 (o1 i1 o2 i2 e1 e2 : IE)

def wipeE (env : EnvD) : List Nat → EnvD
  | [] => env
  | v :: vs => (wipeE env vs).set v none
mutual
/-- an item goes to a target -/
def asgT (m : Mem) : Tg → D → EnvD → Option EnvD
  | .var i, d, env => if i < env.length then some (env.set i (some d)) else none
  | .tup ts, d, env => match seqD m d with
    | some ds => asgTs m ts ds env
    | none => none
def asgTs (m : Mem) : List Tg → List D → EnvD → Option EnvD
  | [], [], env => some env
  | t :: ts, d :: ds, env => (asgT m t d env).bind fun e => asgTs m ts ds e
  | _, _, _ => none
end

abbrev CallT := Nat → List D → Mem → Res D
/-- the exceptions that a told-def takes: class, text -/
structure Ctl where
  call : CallT
  call2 : CallT
  told : List (Nat × List (Str × Str))
  sub : Str → Str → Option Bool
  turns : Nat
/-- which clause takes an exception -/
def toldM (sub : Str → Str → Option Bool) (c : Str) : List (Str × Str) → Option Str
  | [] => none
  | q :: r => match sub c q.1 with
    | some true => some q.2
    | some false => toldM sub c r
    | none => none
def Ctl.inner (C : Ctl) : Ctl := { C with call := C.call2, told := [] }

def bltD (b : Blt) (l : List D) (m : Mem) : Res D := match b, l with
  | .abs, [.int i] => .ok (.int (if i < 0 then -i else i)) m
  | .len, [.str z] => if z.length ≤ sizeLine then .ok (.int z.length) m else .stuck
  | .len, [x] => match seqD m x with
    | some l => .ok (.int l.length) m
    | none => .stuck
  | .int, [.int i] => .ok (.int i) m
  | .int, [.bl b] => .ok (.int (if b then 1 else 0)) m
  | .str, [.int i] => if i.natAbs.log2 < 1920 then .ok (.str (toString i)) m else .stuck
  | .list, [x] => match seqD m x with
    | some l => .ok (.ref m.length) (m ++ [.lst l])
    | none => .stuck
  | .tuple, [.tup l] => .ok (.tup l) m
  | .tuple, [x] => match seqD m x with
    | some l => .ok (.tup l) m
    | none => .stuck
  | .min2, [.int i, .int j] => .ok (.int (if j < i then j else i)) m
  | .max2, [.int i, .int j] => .ok (.int (if j > i then j else i)) m
  | .tzip, [x, y] => tzipD x y m
  | .srtQ c, [x] => srtD c x m
  | _, _ => .stuck
def mthD (k : Mth) (o : D) (l : List D) (m : Mem) : Res D := match o with
  | .ref a => match m[a]?, k, l with
    | some (.lst xs), .append, [y] => if xs.length < sizeLine then .ok .non (m.set a (.lst (xs ++ [y]))) else .stuck
    | some (.lst xs), .pop, [] => match xs[xs.length - 1]? with
      | some y => .ok y (m.set a (.lst xs.dropLast))
      | none => .stuck
    | some (.lst xs), .popAt, [.int i] => if -(2 ^ 63) ≤ i ∧ i < 2 ^ 63 then (match seqIndex? i xs.length with
      | some k => (match xs[k]? with
        | some y => .ok y (m.set a (.lst (xs.eraseIdx k)))
        | none => .stuck)
      | none => .stuck) else .stuck
    | some (.lst xs), .insert, [.int i, y] => if xs.length < sizeLine ∧ 0 ≤ i ∧ i < 2 ^ 63 then .ok .non (m.set a (.lst (xs.take i.toNat ++ [y] ++ xs.drop i.toNat))) else .stuck
    | _, _, _ => .stuck
  | _ => .stuck
def isL (m : Mem) : D → Bool
  | .ref i => match m[i]? with
    | some (.lst _) => true
    | _ => false
  | _ => false
def negD (x : D) (m : Mem) : Res D := match x with
  | .int i => .ok (.int (-i)) m
  | _ => .stuck
def asB {α : Type} (x : D) (f : Bool → Res α) : Res α := match x with
  | .bl b => f b
  | _ => .stuck
/-- the list that is walked stands as it stood -/
inductive Wch where
  | none
  | some (p : Nat × List D)
  | two (p q : Nat × List D)
def chk1 (i : Nat) (ds : List D) (m : Mem) : Prop := m[i]? = some (.lst ds)
instance (i : Nat) (ds : List D) (m : Mem) : Decidable (chk1 i ds m) := match e : m[i]? with
    | some (.lst l) => if h : D.beqL l ds = true then isTrue (by show m[i]? = _; rw [e, (D.beqL_iff l ds).mp h]) else isFalse (by
        intro z
        have z : m[i]? = some (.lst ds) := z
        rw [e] at z
        cases z
        exact h ((D.beqL_iff _ _).mpr rfl))
    | some (.ins c f) => isFalse (by intro z; have z : m[i]? = some (.lst ds) := z; rw [e] at z; cases z)
    | some (.dct l) => isFalse (by intro z; have z : m[i]? = some (.lst ds) := z; rw [e] at z; cases z)
    | none => isFalse (by intro z; have z : m[i]? = some (.lst ds) := z; rw [e] at z; cases z)
def chkW (o : Wch) (m : Mem) : Prop := match o with
  | .none => True
  | .some (i, ds) => chk1 i ds m
  | .two (i, ds) (j, es) => chk1 i ds m ∧ chk1 j es m
instance (o : Wch) (m : Mem) : Decidable (chkW o m) := match o with
  | .none => isTrue trivial
  | .some (i, ds) => inferInstanceAs (Decidable (chk1 i ds m))
  | .two (i, ds) (j, es) => inferInstanceAs (Decidable (chk1 i ds m ∧ chk1 j es m))
abbrev Items := List D × Wch
def seqW (x : D) (m : Mem) : Res Items := match x with
  | .tup l => .ok (l, .none) m
  | .fro l => .ok (l, .none) m
  | .ref i => match m[i]? with
    | some (.lst l) => .ok (l, .some (i, l)) m
    | _ => .stuck
  | _ => .stuck
def rngL (a : Int) (n : Nat) : List D := (List.range n).map fun i => .int (a + (i : Nat))
def rngD (ds : List D) (m : Mem) : Res Items := match ds with
  | [.int i, .int j] => if -(2 ^ 62) ≤ i ∧ i < 2 ^ 62 ∧ -(2 ^ 62) ≤ j ∧ j < 2 ^ 62 then .ok (rngL i (j - i).toNat, .none) m else .stuck
  | _ => .stuck
def zipD (ds : List D) (m : Mem) : Res Items := match ds with
  | [.tup l, .tup k] => .ok ((l.zip k).map (fun p => .tup [p.1, p.2]), .none) m
  | [.ref i, .ref j] => match m[i]?, m[j]? with
    | some (.lst l), some (.lst k) => .ok ((l.zip k).map (fun p => .tup [p.1, p.2]), .two (i, l) (j, k)) m
    | _, _ => .stuck
  | _ => .stuck
def optC (r : Option D) (l : List D) : List D := match r with
  | some x => x :: l
  | none => l
def compL (o : Wch) (body : D → Mem → Res (Option D)) : List D → Mem → Res (List D)
  | [], m => if chkW o m then .ok [] m else .stuck
  | d :: ds, m => if chkW o m then (body d m).bind fun r m1 => (compL o body ds m1).bind fun l m2 => .ok (optC r l) m2 else .stuck
def comp2L (o : Wch) (body : D → Mem → Res (List D)) : List D → Mem → Res (List D)
  | [], m => if chkW o m then .ok [] m else .stuck
  | d :: ds, m => if chkW o m then (body d m).bind fun r m1 => (comp2L o body ds m1).bind fun l m2 => .ok (r ++ l) m2 else .stuck
def allI (l : List D) : Bool := l.all fun d => match d with
  | .int _ => true
  | _ => false
/-- items of a list -/
def listD (m : Mem) : D → Option (List D)
  | .fro l => some l
  | .ref i => match m[i]? with
    | some (.lst l) => some l
    | _ => none
  | _ => none
/-- the first of the last of a list -/
def lastZ (m : Mem) (d : D) : Option Int := match listD m d with
  | some ws => (match atI ws (-1) with
    | some (.tup zs) => (match atI zs 0 with
      | some (.int z) => some z
      | _ => none)
    | _ => none)
  | none => none
def anyZ (m : Mem) (l : List D) : Option Bool := if (l.all fun d => (lastZ m d).isSome) = true then some (l.any fun d => decide ((lastZ m d).getD 0 ≠ 0)) else none
mutual
def evalE : IE → Ctl → EnvD → Mem → Res D
  | .var i, C, env, m => match env[i]? with
    | some (some d) => .ok d m
    | _ => .stuck
  | .con d, C, _, m => .ok d m
  | .glo _ d, C, _, m => .ok d m
  | .nop, C, _, m => .ok .non m
  | .bin op a b, C, env, m => (evalE a C env m).bind fun x m1 => (evalE b C env m1).bind fun y m2 => binD op x y m2
  | .neg a, C, env, m => (evalE a C env m).bind fun x m1 => negD x m1
  | .notE a, C, env, m => (evalE a C env m).bind fun x m1 => asB x fun b => .ok (.bl (!b)) m1
  | .cmp op a b, C, env, m => (evalE a C env m).bind fun x m1 => (evalE b C env m1).bind fun y m2 => cmpD op x y m2
  | .cmp2 o1 o2 a b c, C, env, m => (evalE a C env m).bind fun x m1 => (evalE b C env m1).bind fun y m2 => (cmpD o1 x y m2).bind fun r m3 => asB r fun t =>
      if t = true then (evalE c C env m3).bind fun z m4 => cmpD o2 y z m4 else .ok (.bl false) m3
  | .andE a b, C, env, m => (evalE a C env m).bind fun x m1 => asB x fun t => if t = true then evalE b C env m1 else .ok (.bl false) m1
  | .orE a b, C, env, m => (evalE a C env m).bind fun x m1 => asB x fun t => if t = true then .ok (.bl true) m1 else evalE b C env m1
  | .ifE c a b, C, env, m => (evalE c C env m).bind fun x m1 => asB x fun t => if t = true then evalE a C env m1 else evalE b C env m1
  | .idx a b, C, env, m => (evalE a C env m).bind fun x m1 => (evalE b C env m1).bind fun y m2 => idxD x y m2
  | .slc bl bh a lo hi, C, env, m => (evalE a C env m).bind fun x m1 => (evalE lo C env m1).bind fun l m2 => match partD bl l with
    | some l' => (evalE hi C env m2).bind fun h m3 => (match partD bh h with
      | some h' => slcD x l' h' m3
      | none => .stuck)
    | none => .stuck
  | .tup l, C, env, m => (evalEs l C env m).bind fun ds m1 => if ds.length ≤ sizeLine then .ok (.tup ds) m1 else .stuck
  | .lst l, C, env, m => (evalEs l C env m).bind fun ds m1 => if ds.length ≤ sizeLine then .ok (.ref m1.length) (m1 ++ [.lst ds]) else .stuck
  | .call f l, C, env, m => (evalEs l C env m).bind fun ds m1 => C.call f ds m1
  | .blt b l, C, env, m => (evalEs l C env m).bind fun ds m1 => bltD b ds m1
  | .mth k o l, C, env, m => (evalE o C env m).bind fun x m1 => if isL m1 x = true then (evalEs l C env m1).bind fun ds m2 => mthD k x ds m2 else .stuck
  | .comp tg it c e own, C, env, m => (evalI it C env m).bind fun I m1 => (compL I.2 (fun d m2 =>
      match asgT m2 tg d (wipeE env own) with
      | some env2 => (match evalE c C env2 m2 with
        | .ok (.bl true) m3 => (match evalE e C env2 m3 with
          | .ok x m4 => .ok (some x) m4
          | _ => .stuck)
        | .ok (.bl false) m3 => .ok none m3
        | _ => .stuck)
      | none => .stuck) I.1 m1).bind fun l m2 => if l.length ≤ sizeLine then .ok (.ref m2.length) (m2 ++ [.lst l]) else .stuck
  | .comp2 tg it tg1 v1 e own vs1, C, env, m => (evalI it C env m).bind fun I m1 => (comp2L I.2 (fun d m2 =>
      match asgT m2 tg d (wipeE env own) with
      | some env2 => (match env2[v1]? with
        | some (some (.tup l1)) => (match compL .none (fun d1 m4 =>
            match asgT m4 tg1 d1 (wipeE env2 vs1) with
            | some env3 => (match evalE e C env3 m4 with
              | .ok x m5 => .ok (some x) m5
              | _ => .stuck)
            | none => .stuck) l1 m2 with
          | .ok l m5 => .ok l m5
          | _ => .stuck)
        | _ => .stuck)
      | none => .stuck) I.1 m1).bind fun l m2 => if l.length ≤ sizeLine then .ok (.ref m2.length) (m2 ++ [.lst l]) else .stuck
  | .anyNI e, C, env, m => (evalE e C env m).bind fun x m1 => match x with
    | .tup l => if allI l = true then .ok (.bl false) m1 else .stuck
    | _ => .stuck
  | .isT e, C, env, m => (evalE e C env m).bind fun x m1 => match x with
    | .tup _ => .ok (.bl true) m1
    | .non => .ok (.bl false) m1
    | .int _ => .ok (.bl false) m1
    | _ => .stuck
  | .anyL e, C, env, m => (evalE e C env m).bind fun x m1 => match listD m1 x with
    | some l => liftO m1 ((anyZ m1 l).map .bl)
    | none => .stuck
  | .lrev e, C, env, m => (evalE e C env m).bind fun x m1 => match seqD m1 x with
    | some l => .ok (.ref m1.length) (m1 ++ [.lst l.reverse])
    | none => .stuck
  | .told f e, C, env, m => match C.told.lookup f with
    | some cl => (match evalE e C.inner env m with
      | .ok d m1 => (Res.ok d m1).gc m.length
      | .exn c p m1 => (match toldM C.sub c cl with
        | some s => (Res.ok (.str s) m1).gc m.length
        | none => .stuck)
      | .stuck => .stuck)
    | none => .stuck
def evalEs : List IE → Ctl → EnvD → Mem → Res (List D)
  | [], C, _, m => .ok [] m
  | e :: es, C, env, m => (evalE e C env m).bind fun d m1 => (evalEs es C env m1).bind fun ds m2 => .ok (d :: ds) m2
def evalI : II → Ctl → EnvD → Mem → Res Items
  | .seq e, C, env, m => (evalE e C env m).bind fun x m1 => seqW x m1
  | .rng1 l, C, env, m => (evalEs l C env m).bind fun ds m2 => rngD ((.int 0) :: ds) m2
  | .rng l, C, env, m => (evalEs l C env m).bind fun ds m2 => rngD ds m2
  | .rev e, C, env, m => (evalE e C env m).bind fun x m1 => (seqW x m1).bind fun I m2 => .ok (I.1.reverse, I.2) m2
  | .enm e, C, env, m => (evalE e C env m).bind fun x m1 => (seqW x m1).bind fun I m2 => .ok ((I.1.zipIdx).map (fun p => .tup [.int (p.2 : Nat), p.1]), I.2) m2
  | .zip l, C, env, m => (evalEs l C env m).bind fun ds m2 => zipD ds m2
end

/-! ### statements -/
inductive Out where
  | nx (env : EnvD) (m : Mem)
  | rt (d : D) (m : Mem)
  | bk (env : EnvD) (m : Mem)
  | ct (env : EnvD) (m : Mem)
  | exn (c : Str) (p : Option D) (env : EnvD) (m : Mem)
  | stuck
def Out.seq (o : Out) (f : EnvD → Mem → Out) : Out := match o with
  | .nx env m => f env m
  | o => o
def Res.out {α : Type} (env : EnvD) (r : Res α) (f : α → Mem → Out) : Out := match r with
  | .ok a m => f a m
  | .exn c p m => .exn c p env m
  | .stuck => .stuck
def tstO (env : EnvD) (r : Res D) (n : Nat) (f : Bool → Mem → Out) : Out := (r.gc n).out env fun x m1 => match x with
  | .bl b => f b m1
  | _ => .stuck
/-- a loop's turns, so many at most -/
def whileN (c : EnvD → Mem → Res D) (b : EnvD → Mem → Out) : Nat → EnvD → Mem → Out
  | 0, _, _ => .stuck
  | n + 1, env, m => tstO env (c env m) m.length fun t m1 => if t = true then (match b env m1 with
      | .nx e m2 => whileN c b n e m2
      | .ct e m2 => whileN c b n e m2
      | .bk e m2 => .nx e m2
      | o => o) else .nx env m1
def forL (o : Wch) (t : Tg) (b : EnvD → Mem → Out) : List D → EnvD → Mem → Out
  | [], env, m => if chkW o m then .nx env m else .stuck
  | d :: ds, env, m => if chkW o m then (match asgT m t d env with
    | some e1 => (match b e1 m with
      | .nx e m2 => forL o t b ds e m2
      | .ct e m2 => forL o t b ds e m2
      | .bk e m2 => .nx e m2
      | o => o)
    | none => .stuck) else .stuck
def setD (o i v : D) (m : Mem) : Res Unit := match o, i with
  | .ref a, .int k => match m[a]? with
    | some (.lst xs) => (match ixN xs.length k with
      | some j => .ok () (m.set a (.lst (xs.set j v)))
      | none => .stuck)
    | _ => .stuck
  | _, _ => .stuck
mutual
def evalS (C : Ctl) : IS → EnvD → Mem → Out
  | .expr e, env, m => ((evalE e C env m).bind fun _ m1 => (Res.ok .non m1).gc m.length).out env fun _ m1 => .nx env m1
  | .asg t e, env, m => ((evalE e C env m).gc m.length).out env fun x m1 => match asgT m1 t x env with
    | some e1 => .nx e1 m1
    | none => .stuck
  | .aug i op e, env, m => match env[i]? with
    | some (some x) => ((evalE e C env m).bind fun y m1 => match x, y with
      | .int _, .int _ => binD op x y m1
      | _, _ => .stuck).out env fun z m2 => .nx (env.set i (some z)) m2
    | _ => .stuck
  | .setI o i e, env, m => ((evalE e C env m).bind fun v m1 => (evalE o C env m1).bind fun a m2 => (evalE i C env m2).bind fun k m3 => (setD a k v m3).bind fun _ m4 => (Res.ok .non m4).gc m.length).out env fun _ m4 => .nx env m4
  | .ifS c a b, env, m => tstO env (evalE c C env m) m.length fun t m1 => if t = true then evalB C a env m1 else evalB C b env m1
  | .whl c b, env, m => whileN (fun e m1 => evalE c C e m1) (fun e m1 => evalB C b e m1) C.turns env m
  | .forS t it b, env, m => (evalI it C env m).out env fun I m1 => forL I.2 t (fun e m2 => evalB C b e m2) I.1 env m1
  | .ret e, env, m => (evalE e C env m).out env fun d m1 => .rt d m1
  | .retN, _, m => .rt .non m
  | .rais c, env, m => .exn c none env m
  | .pass, env, m => .nx env m
  | .brk, env, m => .bk env m
  | .cnt, env, m => .ct env m
  | .fgt vs, env, m => .nx (wipeE env vs) m
  | .set2 o1 i1 o2 i2 e1 e2, env, m => ((evalE e1 C env m).bind fun v1 m1 => (evalE e2 C env m1).bind fun v2 m2 => (evalE o1 C env m2).bind fun a m3 => (evalE i1 C env m3).bind fun k m4 => (setD a k v1 m4).bind fun _ m5 =>
      (evalE o2 C env m5).bind fun b m6 => (evalE i2 C env m6).bind fun j m7 => (setD b j v2 m7).bind fun _ m8 => (Res.ok .non m8).gc m.length).out env fun _ m9 => .nx env m9
def evalB (C : Ctl) : List IS → EnvD → Mem → Out
  | [], env, m => .nx env m
  | s :: r, env, m => (evalS C s env m).seq fun e m1 => evalB C r e m1
end
/-! ### defs -/
structure FnI where
  np : Nat
  nn : Nat
  body : List IS
def startE (np nn : Nat) (ds : List D) : EnvD := ds.map some ++ List.replicate (nn - np) none
def bodyF (C : Ctl) (f : FnI) (ds : List D) (m : Mem) : Res D := if ds.length = f.np then (match evalB C f.body (startE f.np f.nn ds) m with
  | .rt d m1 => (Res.ok d m1).gc m.length
  | .nx _ m1 => (Res.ok .non m1).gc m.length
  | .exn c p _ m1 => .exn c p m1
  | _ => .stuck) else .stuck
structure Prog where
  fns : List FnI
  told : List (Nat × List (Str × Str))
  sub : Str → Str → Option Bool
  turns : Nat
/-- what runs at a level: calls one level down; a lambda's calls three -/
def Prog.ctl (P : Prog) (c1 c2 : CallT) (n : Nat) : Ctl := ⟨c1, c2, if 2 ≤ n then P.told else [], P.sub, P.turns⟩
def stepF (P : Prog) (C : Ctl) : CallT := fun f ds m => match P.fns[f]? with
  | some fi => bodyF C fi ds m
  | none => .stuck
def runT (P : Prog) : Nat → CallT × CallT × CallT
  | 0 => (fun _ _ _ => .stuck, fun _ _ _ => .stuck, fun _ _ _ => .stuck)
  | n + 1 => (stepF P (P.ctl (runT P n).1 (runT P n).2.2 n), (runT P n).1, (runT P n).2.1)
def runF (P : Prog) (n : Nat) : CallT := (runT P n).1
theorem runT_1 (P : Prog) : ∀ n, (runT P (n + 1)).2.1 = runF P n := fun n => rfl
theorem runT_2 (P : Prog) : ∀ n, (runT P (n + 2)).2.2 = runF P n := fun n => rfl
theorem runT_20 (P : Prog) : (runT P 0).2.2 = runF P 0 := rfl
theorem runT_21 (P : Prog) : (runT P 1).2.2 = runF P 0 := rfl
theorem runT_22 (P : Prog) (n : Nat) : (runT P n).2.2 = runF P (n - 2) := by
  rcases n with _ | _ | n
  · rfl
  · rfl
  · rfl
theorem runF_succ (P : Prog) (n : Nat) : runF P (n + 1) = stepF P (P.ctl (runF P n) (runF P (n - 2)) n) := by
  show stepF P (P.ctl (runT P n).1 (runT P n).2.2 n) = _
  rw [runT_22] <;> rfl
theorem runF_zero (P : Prog) (f : Nat) (ds : List D) (m : Mem) : runF P 0 f ds m = .stuck := rfl
end Dat

/-! Dat2 -/
set_option linter.all false
set_option maxRecDepth 100000
set_option maxHeartbeats 1000000
/-! Dat2: how plain data stand in the abstract heap. -/
namespace Dat
open PySem PySem.Spec L2 PyProof.Rows

section
variable (K : PySem.W.Frag)
/-- a list that nobody writes: locked, or of the written part -/
def SqF (H : Hp) (a : Addr) (xs : List V) : Prop :=
  (∃ o, H a = some (.frz o (.lst xs))) ∨
    ∃ (o : Obj) (its : Array Value) (n : Nat), K.lookup a = some o ∧ o.cls = .type "list" ∧ o.dict = none ∧ o.data = .seq its n ∧ its.size ≤ sizeLine ∧ Vals xs its.toList
mutual
inductive RelD (ρ : List Addr) (H : Hp) : D → V → Prop
  | non : RelD ρ H .non .non
  | bl (b : Bool) : RelD ρ H (.bl b) (.bl b)
  | int (i : Int) : RelD ρ H (.int i) (.int i)
  | str (x : Str) : RelD ρ H (.str x) (.str x)
  | tup {a : Addr} {vs : List V} {l : List D} : SqT K H a vs → RelDs ρ H l vs → RelD ρ H (.tup l) (.ref a)
  | fro {a : Addr} {vs : List V} {l : List D} : SqF K H a vs → RelDs ρ H l vs → RelD ρ H (.fro l) (.ref a)
  | ref {i : Nat} {a : Addr} : ρ[i]? = some a → RelD ρ H (.ref i) (.ref a)
inductive RelDs (ρ : List Addr) (H : Hp) : List D → List V → Prop
  | nil : RelDs ρ H [] []
  | cons {d : D} {v : V} {ds : List D} {vs : List V} : RelD ρ H d v → RelDs ρ H ds vs → RelDs ρ H (d :: ds) (v :: vs)
end
inductive RelF (ρ : List Addr) (H : Hp) : List (Str × D) → List (Str × V) → Prop
  | nil : RelF ρ H [] []
  | cons {x : Str} {d : D} {v : V} {ds : List (Str × D)} {vs : List (Str × V)} : RelD K ρ H d v → RelF ρ H ds vs → RelF ρ H ((x, d) :: ds) ((x, v) :: vs)
inductive RelKV (ρ : List Addr) (H : Hp) : List (Key × D) → List (Key × V) → Prop
  | nil : RelKV ρ H [] []
  | cons {x : Key} {d : D} {v : V} {ds : List (Key × D)} {vs : List (Key × V)} : RelD K ρ H d v → RelKV ρ H ds vs → RelKV ρ H ((x, d) :: ds) ((x, v) :: vs)
def CellR (ρ : List Addr) (H : Hp) (a : Addr) : Cell → Prop
  | .lst ds => ∃ vs, H a = some (.lst vs) ∧ RelDs K ρ H ds vs
  | .ins c fs => ∃ dx vs, H a = some (.ins (He.ga K c) dx vs) ∧ RelF K ρ H fs vs
  | .dct kvs => ∃ vs, H a = some (.dK vs) ∧ RelKV K ρ H kvs vs
structure Sto (T : List (Addr × Str)) (ρ : List Addr) (H : Hp) (m : Mem) : Prop where
  len : ρ.length = m.length
  nd : ρ.Nodup
  cell : ∀ (i : Nat) (c : Cell), m[i]? = some c → ∃ a, ρ[i]? = some a ∧ CellR K ρ H a c
  tabs : LamX.Tabs T H
end
structure Ext (ρ : List Addr) (H : Hp) (ρ' : List Addr) (H' : Hp) : Prop where
  pre : ρ <+: ρ'
  keep : ∀ a o, H a = some o → a ∉ ρ → (∀ ps, o ≠ .tbl ps) → H' a = some o
  new : ∀ a, a ∈ ρ' → a ∉ ρ → ∀ o, H a = some o → ∃ ps, o = .tbl ps
theorem Ext.refl (ρ : List Addr) (H : Hp) : Ext ρ H ρ H := ⟨List.prefix_refl _, fun _ _ h _ _ => h, fun _ h n => absurd h n⟩
theorem Ext.trans {ρ ρ1 ρ2 : List Addr} {H H1 H2 : Hp} (a : Ext ρ H ρ1 H1) (b : Ext ρ1 H1 ρ2 H2) : Ext ρ H ρ2 H2 := by
  have nin : ∀ c o, H c = some o → c ∉ ρ → (∀ ps, o ≠ .tbl ps) → c ∉ ρ1 := fun c o h n t q => by
    obtain ⟨ps, e⟩ := a.new c q n o h
    exact t ps e
  refine ⟨a.pre.trans b.pre, fun c o h n t => b.keep c o (a.keep c o h n t) (nin c o h n t) t, fun c q n o h => ?_⟩
  by_cases t : ∃ ps, o = .tbl ps
  · exact t
  · have t' : ∀ ps, o ≠ .tbl ps := fun ps e => t ⟨ps, e⟩
    exact b.new c q (nin c o h n t') o (a.keep c o h n t')
theorem Ext.get {ρ ρ' : List Addr} {H H' : Hp} (e : Ext ρ H ρ' H') {i : Nat} {a : Addr} (h : ρ[i]? = some a) : ρ'[i]? = some a := by
  obtain ⟨t, rfl⟩ := e.pre
  rw [List.getElem?_append_left (List.getElem?_eq_some_iff.mp h).1]
  exact h
section
variable {K : PySem.W.Frag} {T : List (Addr × Str)} {ρ ρ' : List Addr} {H H' : Hp} {m : Mem}
/-- what may stand at a place of the store -/
def cellish : HO → Bool
  | .lst _ | .ins _ _ _ | .dK _ => true
  | _ => false
theorem CellR.ish {a : Addr} {c : Cell} (h : CellR K ρ H a c) : ∃ o, H a = some o ∧ cellish o = true := by
  cases c with
  | lst l => obtain ⟨vs, h, _⟩ := h; exact ⟨_, h, rfl⟩
  | ins c fs => obtain ⟨dx, vs, h, _⟩ := h; exact ⟨_, h, rfl⟩
  | dct l => obtain ⟨vs, h, _⟩ := h; exact ⟨_, h, rfl⟩
theorem Sto.at_ (S : Sto K T ρ H m) {a : Addr} (h : a ∈ ρ) : ∃ o, H a = some o ∧ cellish o = true := by
  obtain ⟨i, hi, e⟩ := List.mem_iff_getElem.mp h
  have hm : i < m.length := S.len ▸ hi
  obtain ⟨b, e2, r⟩ := S.cell i m[i] (List.getElem?_eq_getElem hm)
  rw [List.getElem?_eq_getElem hi, e] at e2
  cases e2
  exact r.ish
theorem Sto.out (S : Sto K T ρ H m) {a : Addr} {o : HO} (h : H a = some o) (n : cellish o = false) : a ∉ ρ := fun q => by
  obtain ⟨u, h2, c⟩ := S.at_ q
  rw [h] at h2
  cases h2
  rw [n] at c
  cases c
theorem Sto.stay (S : Sto K T ρ H m) (E : Ext ρ H ρ' H') {a : Addr} {o : HO} (h : H a = some o) (n : cellish o = false) (nt : ∀ ps, o ≠ .tbl ps) : H' a = some o := E.keep a o h (S.out h n) nt
theorem Sto.sqT (S : Sto K T ρ H m) (E : Ext ρ H ρ' H') {a : Addr} {vs : List V} (h : SqT K H a vs) : SqT K H' a vs := by
  rcases h with (h | ⟨o, h⟩) | h
  · exact .inl (.inl (S.stay E h rfl fun _ z => nomatch z))
  · exact .inl (.inr ⟨o, S.stay E h rfl fun _ z => nomatch z⟩)
  · exact .inr h
theorem Sto.sqF (S : Sto K T ρ H m) (E : Ext ρ H ρ' H') {a : Addr} {vs : List V} (h : SqF K H a vs) : SqF K H' a vs := by
  rcases h with ⟨o, h⟩ | h
  · exact .inl ⟨o, S.stay E h rfl fun _ z => nomatch z⟩
  · exact .inr h
mutual
theorem RelD.mono (S : Sto K T ρ H m) (E : Ext ρ H ρ' H') : ∀ {d : D} {v : V}, RelD K ρ H d v → RelD K ρ' H' d v
  | _, _, .non => .non
  | _, _, .bl b => .bl b
  | _, _, .int i => .int i
  | _, _, .str x => .str x
  | _, _, .tup h r => .tup (S.sqT E h) (RelDs.mono S E r)
  | _, _, .fro h r => .fro (S.sqF E h) (RelDs.mono S E r)
  | _, _, .ref h => .ref (E.get h)
theorem RelDs.mono (S : Sto K T ρ H m) (E : Ext ρ H ρ' H') : ∀ {d : List D} {v : List V}, RelDs K ρ H d v → RelDs K ρ' H' d v
  | _, _, .nil => .nil
  | _, _, .cons h r => .cons (RelD.mono S E h) (RelDs.mono S E r)
end
theorem RelF.mono (S : Sto K T ρ H m) (E : Ext ρ H ρ' H') : ∀ {d : List (Str × D)} {v : List (Str × V)}, RelF K ρ H d v → RelF K ρ' H' d v
  | _, _, .nil => .nil
  | _, _, .cons h r => .cons (RelD.mono S E h) (RelF.mono S E r)
theorem RelKV.mono (S : Sto K T ρ H m) (E : Ext ρ H ρ' H') : ∀ {d : List (Key × D)} {v : List (Key × V)}, RelKV K ρ H d v → RelKV K ρ' H' d v
  | _, _, .nil => .nil
  | _, _, .cons h r => .cons (RelD.mono S E h) (RelKV.mono S E r)
/-- a place that is not of the changed ones -/
theorem CellR.mono (S : Sto K T ρ H m) (E : Ext ρ H ρ' H') {a : Addr} {c : Cell} (e : H' a = H a) (h : CellR K ρ H a c) : CellR K ρ' H' a c := by
  cases c with
  | lst l => obtain ⟨vs, h, r⟩ := h; exact ⟨vs, e.trans h, r.mono S E⟩
  | ins c fs => obtain ⟨dx, vs, h, r⟩ := h; exact ⟨dx, vs, e.trans h, r.mono S E⟩
  | dct l => obtain ⟨vs, h, r⟩ := h; exact ⟨vs, e.trans h, r.mono S E⟩
theorem tabs_ext (t : LamX.Tabs T H) (e : ∀ b o, H b = some o → cellish o = false → H' b = some o) : LamX.Tabs T H' := fun p hp => by
  obtain ⟨ps, h1, h2, h3⟩ := t p hp
  refine ⟨ps, e _ _ h1 rfl, h2, fun pos cv hc => ?_⟩
  obtain ⟨c, e1, e2⟩ := h3 pos cv hc
  exact ⟨c, e1, e _ _ e2 rfl⟩

/-! ### what happens to the store -/
/-- a new object that is not a place of the store -/
theorem Sto.aside (S : Sto K T ρ H m) {p : Addr} {o : HO} (np : H p = none) : Ext ρ H ρ (upd H p o) ∧ Sto K T ρ (upd H p o) m := by
  have ne : ∀ b u, H b = some u → b ≠ p := fun b u e => ne_of_none e np
  have E : Ext ρ H ρ (upd H p o) := ⟨List.prefix_refl _, fun a u h _ _ => by rw [upd_ne (ne a u h)]; exact h, fun _ h n => absurd h n⟩
  refine ⟨E, S.len, S.nd, fun i c h => ?_, tabs_ext S.tabs fun b u h _ => by rw [upd_ne (ne b u h)]; exact h⟩
  obtain ⟨a, e, r⟩ := S.cell i c h
  obtain ⟨u, hu, _⟩ := r.ish
  exact ⟨a, e, r.mono S E (upd_ne (ne a u hu))⟩
/-- an address that is tracked outside becomes a place of the store -/
theorem Sto.adopt (S : Sto K T ρ H m) {p : Addr} {c : Cell} (hp : p ∉ ρ) (r : CellR K ρ H p c) : Sto K T (ρ ++ [p]) H (m ++ [c]) := by
  have E : Ext ρ H (ρ ++ [p]) H → True := fun _ => trivial
  have up : ∀ {d : D} {v : V}, RelD K ρ H d v → RelD K (ρ ++ [p]) H d v := by
    intro d v h
    exact RelD.rec (motive_1 := fun d v _ => RelD K (ρ ++ [p]) H d v) (motive_2 := fun d v _ => RelDs K (ρ ++ [p]) H d v) .non .bl .int .str (fun h _ r => .tup h r) (fun h _ r => .fro h r)
      (fun h => .ref (by rw [List.getElem?_append_left (List.getElem?_eq_some_iff.mp h).1]; exact h)) .nil (fun _ _ a b => .cons a b) h
  have ups : ∀ {d : List D} {v : List V}, RelDs K ρ H d v → RelDs K (ρ ++ [p]) H d v := by
    intro d v h
    exact RelDs.rec (motive_1 := fun d v _ => RelD K (ρ ++ [p]) H d v) (motive_2 := fun d v _ => RelDs K (ρ ++ [p]) H d v) .non .bl .int .str (fun h _ r => .tup h r) (fun h _ r => .fro h r)
      (fun h => .ref (by rw [List.getElem?_append_left (List.getElem?_eq_some_iff.mp h).1]; exact h)) .nil (fun _ _ a b => .cons a b) h
  have upF : ∀ {d : List (Str × D)} {v : List (Str × V)}, RelF K ρ H d v → RelF K (ρ ++ [p]) H d v := by
    intro d v h
    induction h with
    | nil => exact .nil
    | cons a _ b => exact .cons (up a) b
  have upK : ∀ {d : List (Key × D)} {v : List (Key × V)}, RelKV K ρ H d v → RelKV K (ρ ++ [p]) H d v := by
    intro d v h
    induction h with
    | nil => exact .nil
    | cons a _ b => exact .cons (up a) b
  have upC : ∀ {a : Addr} {c : Cell}, CellR K ρ H a c → CellR K (ρ ++ [p]) H a c := by
    intro a c h
    cases c with
    | lst l => obtain ⟨vs, h, r⟩ := h; exact ⟨vs, h, ups r⟩
    | ins c fs => obtain ⟨dx, vs, h, r⟩ := h; exact ⟨dx, vs, h, upF r⟩
    | dct l => obtain ⟨vs, h, r⟩ := h; exact ⟨vs, h, upK r⟩
  refine ⟨by simp [S.len], ?_, fun i c' h => ?_, S.tabs⟩
  · rw [List.nodup_append]
    refine ⟨S.nd, by simp, fun a ha b hb => ?_⟩
    rw [List.mem_singleton] at hb
    rintro rfl
    exact hp (hb ▸ ha)
  · by_cases hi : i < m.length
    · rw [List.getElem?_append_left hi] at h
      obtain ⟨a, e, r'⟩ := S.cell i c' h
      exact ⟨a, by rw [List.getElem?_append_left (S.len ▸ hi)]; exact e, upC r'⟩
    · have hi2 : i = m.length := by
        have := (List.getElem?_eq_some_iff.mp h).1
        simp at this
        omega
      subst hi2
      simp at h
      subst h
      exact ⟨p, by rw [← S.len]; simp, upC r⟩
theorem Ext.adopt {p : Addr} (hp : H p = none) {H' : Hp} (E : Ext ρ H ρ H') : Ext ρ H (ρ ++ [p]) H' :=
  ⟨List.prefix_append _ _, E.keep, fun a q n => by
    rcases List.mem_append.mp q with q | q
    · exact absurd q n
    · rw [List.mem_singleton.mp q, hp]; exact fun o h => nomatch h⟩
/-- a new place -/
theorem Sto.alloc (S : Sto K T ρ H m) {p : Addr} {vs : List V} {ds : List D} (np : H p = none) (r : RelDs K ρ H ds vs) :
    Ext ρ H (ρ ++ [p]) (upd H p (.lst vs)) ∧ Sto K T (ρ ++ [p]) (upd H p (.lst vs)) (m ++ [.lst ds]) := by
  obtain ⟨E, S'⟩ := S.aside (o := .lst vs) np
  have hp : p ∉ ρ := fun q => by
    obtain ⟨o, h, _⟩ := S.at_ q
    rw [np] at h
    cases h
  exact ⟨E.adopt np, S'.adopt hp ⟨vs, upd_same, r.mono S E⟩⟩
/-- a place is written -/
theorem Sto.write (S : Sto K T ρ H m) {i : Nat} {a : Addr} {vs : List V} {ds : List D} (hi : ρ[i]? = some a) (r : RelDs K ρ H ds vs) :
    Ext ρ H ρ (upd H a (.lst vs)) ∧ Sto K T ρ (upd H a (.lst vs)) (m.set i (.lst ds)) := by
  have ha : a ∈ ρ := List.mem_of_getElem? hi
  have ne : ∀ b, b ∉ ρ → b ≠ a := fun b h e => h (e ▸ ha)
  have E : Ext ρ H ρ (upd H a (.lst vs)) := ⟨List.prefix_refl _, fun b u h n _ => by rw [upd_ne (ne b n)]; exact h, fun _ h n => absurd h n⟩
  refine ⟨E, by rw [List.length_set]; exact S.len, S.nd, fun j c h => ?_, tabs_ext S.tabs fun b u h n => by rw [upd_ne (ne b (S.out h n))]; exact h⟩
  by_cases hj : j = i
  · subst hj
    have hlt : j < m.length := by
      have := (List.getElem?_eq_some_iff.mp h).1
      simpa using this
    rw [List.getElem?_set_self hlt] at h
    cases h
    exact ⟨a, hi, vs, upd_same, r.mono S E⟩
  · rw [List.getElem?_set_ne (Ne.symm hj)] at h
    obtain ⟨b, e, r'⟩ := S.cell j c h
    refine ⟨b, e, r'.mono S E (upd_ne fun z => hj ?_)⟩
    subst z
    obtain ⟨h1, e1⟩ := List.getElem?_eq_some_iff.mp e
    obtain ⟨h2, e2⟩ := List.getElem?_eq_some_iff.mp hi
    exact (List.getElem_inj S.nd).mp (e1.trans e2.symm)
/-! ### forgetting -/
mutual
theorem RelD.cut {n : Nat} : ∀ {d : D} {v : V}, D.undr n d = true → RelD K ρ H d v → RelD K (ρ.take n) H d v
  | _, _, _, .non => .non
  | _, _, _, .bl b => .bl b
  | _, _, _, .int i => .int i
  | _, _, _, .str x => .str x
  | .tup l, _, u, .tup h r => .tup h (RelDs.cut (by simpa [D.undr] using u) r)
  | .fro l, _, u, .fro h r => .fro h (RelDs.cut (by simpa [D.undr] using u) r)
  | .ref i, _, u, .ref h => .ref (by
      have : i < n := by simpa [D.undr] using u
      rw [List.getElem?_take_of_lt this]
      exact h)
theorem RelDs.cut {n : Nat} : ∀ {d : List D} {v : List V}, D.undrL n d = true → RelDs K ρ H d v → RelDs K (ρ.take n) H d v
  | _, _, _, .nil => .nil
  | d :: l, _, u, .cons h r => by
    have u2 : D.undr n d = true ∧ D.undrL n l = true := by simpa [D.undrL] using u
    exact .cons (RelD.cut u2.1 h) (RelDs.cut u2.2 r)
end
theorem RelF.cut {n : Nat} : ∀ {d : List (Str × D)} {v : List (Str × V)}, (d.all fun p => p.2.undr n) = true → RelF K ρ H d v → RelF K (ρ.take n) H d v
  | _, _, _, .nil => .nil
  | _, _, u, .cons h r => by
    rw [List.all_cons, Bool.and_eq_true] at u
    exact .cons (h.cut u.1) (RelF.cut u.2 r)
theorem RelKV.cut {n : Nat} : ∀ {d : List (Key × D)} {v : List (Key × V)}, (d.all fun p => p.2.undr n) = true → RelKV K ρ H d v → RelKV K (ρ.take n) H d v
  | _, _, _, .nil => .nil
  | _, _, u, .cons h r => by
    rw [List.all_cons, Bool.and_eq_true] at u
    exact .cons (h.cut u.1) (RelKV.cut u.2 r)
theorem CellR.cut {n : Nat} {a : Addr} {c : Cell} (u : c.undr n = true) (h : CellR K ρ H a c) : CellR K (ρ.take n) H a c := by
  cases c with
  | lst l => obtain ⟨vs, h, r⟩ := h; exact ⟨vs, h, r.cut u⟩
  | ins c fs => obtain ⟨dx, vs, h, r⟩ := h; exact ⟨dx, vs, h, r.cut u⟩
  | dct l => obtain ⟨vs, h, r⟩ := h; exact ⟨vs, h, r.cut u⟩
theorem Sto.cut (S : Sto K T ρ H m) {n : Nat} (u : ∀ c ∈ m.take n, c.undr n = true) : Sto K T (ρ.take n) H (m.take n) := by
  refine ⟨by rw [List.length_take, List.length_take, S.len], S.nd.sublist (List.take_sublist _ _), fun i c h => ?_, S.tabs⟩
  have hm := List.mem_of_getElem? h
  have hi : i < n := by
    have := (List.getElem?_eq_some_iff.mp h).1
    rw [List.length_take] at this
    omega
  rw [List.getElem?_take_of_lt hi] at h
  obtain ⟨a, e, r⟩ := S.cell i c h
  exact ⟨a, by rw [List.getElem?_take_of_lt hi]; exact e, r.cut (u c hm)⟩
theorem Ext.cut {n : Nat} (E : Ext ρ H ρ' H') (hn : ρ.length = n) : Ext ρ H (ρ'.take n) H' := by
  obtain ⟨t, rfl⟩ := E.pre
  have e : (ρ ++ t).take n = ρ := by rw [← hn]; simp
  rw [e]
  exact ⟨List.prefix_refl _, E.keep, fun _ h k => absurd h k⟩
/-- the store behind a forgetting -/
theorem gc_ok {n : Nat} {a : D} {v : V} {m' : Mem} (E : Ext ρ H ρ' H') (S' : Sto K T ρ' H' m') (hn : ρ.length = n) (r : RelD K ρ' H' a v) :
    ∃ ρ2, Ext ρ H ρ2 H' ∧ Sto K T ρ2 H' (gcM n a m') ∧ RelD K ρ2 H' a v := by
  unfold gcM
  split
  · rename_i h
    exact ⟨_, E.cut hn, S'.cut h.2, r.cut h.1⟩
  · exact ⟨_, E, S', r⟩
end
end Dat

/-! Dat3 -/
set_option linter.all false
set_option maxRecDepth 100000
/-! Dat3: from the text to the small language. -/
namespace Dat
open PySem L2

structure Ctx where
  N : List Str
  sc : Scope
  blk : Bool
  fns : List (Str × List Str)
  glos : List (Str × D)
  exs : List Str
  told : List (Nat × List (Str × Str))
  lam : Bool
  cel : List Str
  gen : Bool

def okName (x : Str) : Bool := !(x == ("__debug__" : Str)) && !(x == ("__classdict__" : Str)) && !(x == ("__name__" : Str))
def Ctx.slot (c : Ctx) (x : Str) : Option Nat := match c.sc.names.lookup x with
  | some .local | some .cell | some .free => (match c.N.findIdx? (· == x) with
    | some i => if c.N[i]? = some x ∧ okName x = true then some i else none
    | none => none)
  | _ => none
def Ctx.isGl (c : Ctx) (x : Str) : Bool := decide (c.sc.names.lookup x = some .globalImplicit) && okName x
def bltNames : List Str := ["abs", "len", "int", "str", "list", "tuple", "min", "max", "range", "reversed", "enumerate", "zip", "isinstance", "any", "sorted"]
def bltOf (x : Str) (n : Nat) : Option Blt :=
  if x = ("abs" : Str) ∧ n = 1 then some .abs
  else if x = ("len" : Str) ∧ n = 1 then some .len
  else if x = ("int" : Str) ∧ n = 1 then some .int
  else if x = ("str" : Str) ∧ n = 1 then some .str
  else if x = ("list" : Str) ∧ n = 1 then some .list
  else if x = ("tuple" : Str) ∧ n = 1 then some .tuple
  else if x = ("min" : Str) ∧ n = 2 then some .min2
  else if x = ("max" : Str) ∧ n = 2 then some .max2
  else none
def mthOf (x : Str) (n : Nat) : Option Mth :=
  if x = ("append" : Str) ∧ n = 1 then some .append
  else if x = ("pop" : Str) ∧ n = 0 then some .pop
  else if x = ("pop" : Str) ∧ n = 1 then some .popAt
  else if x = ("insert" : Str) ∧ n = 2 then some .insert
  else none
def okBin : Operator → Bool
  | .Add | .Sub | .Mult | .FloorDiv | .Mod | .Pow => true
  | _ => false
/-- a set display, a starred expression: never compiled -/
def plainE : Expr → Bool
  | .Set .. | .Starred .. => false
  | _ => true
/-- no parameters -/
def plainLam : Arguments → Bool
  | ⟨[], [], none, [], [], none, []⟩ => true
  | _ => false
def noSlice : Expr → Bool
  | .Slice .. => false
  | _ => true
def nameE : Expr → Bool
  | .Name .. => true
  | _ => false
/-- list(reversed(a)) -/
def lrevOf (c : Ctx) (f : Str) : List Expr → Option Expr
  | [.Call (.Name g _) [a] [] _] => if f = ("list" : Str) ∧ g = ("reversed" : Str) ∧ c.isGl g = true then some a else none
  | _ => none
/-- tuple(zip(a, b)) -/
def tzipOf (c : Ctx) (f : Str) : List Expr → Option (Expr × Expr)
  | [.Call (.Name g _) [a, b] [] _] => if f = ("tuple" : Str) ∧ g = ("zip" : Str) ∧ c.isGl g = true then some (a, b) else none
  | _ => none
/-- the key's lambda: one[0] * c // one[1] -/
def keyE (one : Str) (c : Int) : Expr → Bool
  | .BinOp (.BinOp (.Subscript (.Name x1 _) (.Constant (.int 0) _ _) _) .Mult (.Constant (.int c') _ _) _) .FloorDiv (.Subscript (.Name x2 _) (.Constant (.int 1) _ _) _) _ => decide (x1 = one ∧ x2 = one ∧ c' = c)
  | _ => false
def keyC : Expr → Int
  | .BinOp (.BinOp _ _ (.Constant (.int c') _ _) _) _ _ _ => c'
  | _ => 0
def keyB (one : Str) (body : Expr) (scope : Scope) : Bool := keyE one (keyC body) body && (decide (scope.kind = .function) && (!scope.isCoroutine && (!scope.isGenerator && (decide (scope.names = [(one, .local)]) && (decide (one = ("one" : Str)) && !(one == ("__debug__" : Str)))))))
/-- sorted(e, key=such a lambda) -/
def srtOf (c : Ctx) (f : Str) (args : List Expr) (kws : List Keyword) : Option (Expr × Int) := match args, kws with
  | [e], [⟨some kn, .Lambda ⟨[], [a1], none, [], [], none, []⟩ body scope _, _⟩] => if f = ("sorted" : Str) ∧ kn = ("key" : Str) ∧ c.isGl f = true ∧ c.lam = true ∧ keyB a1.arg body scope = true then some (e, keyC body) else none
  | _, _ => none
/-- the scope of a generator expression over one name -/
def gnOk (scope : Scope) (x : Str) : Bool := decide (scope.kind = .function) && (!scope.isCoroutine && ((scope.names.all fun y => decide (y.2 ≠ .cell ∧ y.2 ≠ .free)) && decide (scope.names.lookup (".0" : Str) = some .local ∧ scope.names.lookup x = some .local ∧ scope.names.lookup ("isinstance" : Str) = some .globalImplicit ∧ scope.names.lookup ("int" : Str) = some .globalImplicit ∧ (x == ("__debug__" : Str)) = false)))
def gnOk0 (scope : Scope) (x : Str) : Bool := decide (scope.kind = .function) && (!scope.isCoroutine && ((scope.names.all fun y => decide (y.2 ≠ .cell ∧ y.2 ≠ .free)) && decide (scope.names.lookup (".0" : Str) = some .local ∧ scope.names.lookup x = some .local ∧ (x == ("__debug__" : Str)) = false)))
def subN : Expr → Bool
  | .Subscript .. => true
  | _ => false
/-- any(x[-1][0] != 0 for x in a) -/
def anyLOf (c : Ctx) (f : Str) : List Expr → Option Expr
  | [.GeneratorExp (.Compare (.Subscript (.Subscript (.Name x _) (.UnaryOp .USub (.Constant (.int 1) _ _) _) _) (.Constant (.int 0) _ _) _) [.NotEq] [.Constant (.int 0) _ _] _) [⟨.Name y _, it, [], 0⟩] scope _] => if f = ("any" : Str) ∧ x = y ∧ subN it = true ∧ c.gen = true ∧ gnOk0 scope y = true then some it else none
  | _ => none
/-- any(not isinstance(x, int) for x in a) -/
def anyOf (c : Ctx) (f : Str) : List Expr → Option Expr
  | [.GeneratorExp (.UnaryOp .Not (.Call (.Name g _) [.Name x _, .Name h _] [] _) _) [⟨.Name y _, it, [], 0⟩] scope _] => if f = ("any" : Str) ∧ g = ("isinstance" : Str) ∧ h = ("int" : Str) ∧ x = y ∧ nameE it = true ∧ c.gen = true ∧ gnOk scope y = true then some it else none
  | _ => none
/-- isinstance(a, tuple) -/
def isTOf (c : Ctx) (f : Str) : List Expr → Option Expr
  | [a, .Name h _] => if f = ("isinstance" : Str) ∧ h = ("tuple" : Str) ∧ c.isGl h = true then some a else none
  | _ => none
def isTupE : Expr → Bool
  | .Tuple .. => true
  | _ => false
def cConst : Const → Option D
  | .none => some .non
  | .bool b => some (.bl b)
  | .int i => some (.int i)
  | .str s => some (.str s)
  | _ => none
/-- a comprehension's own cells -/
def celOf (scope : Scope) : List Str := (scope.names.filter fun p => decide (scope.names.lookup p.1 = some .cell)).map (·.1)
def cTg (c : Ctx) : Nat → Expr → Option Tg
  | 0, _ => none
  | n + 1, e => match e with
    | .Name x _ => (match c.slot x with
      | some i => if c.sc.names.lookup x = some .local ∨ (c.sc.names.lookup x = some .cell ∧ (c.blk = false ∨ x ∈ c.cel)) then some (.var i) else none
      | none => none)
    | .Tuple es _ _ => (es.mapM (cTg c n)).map .tup
    | _ => none
abbrev blkX (c : Ctx) (scope : Scope) : Ctx := { c with sc := relS scope c.sc, blk := true, lam := false, cel := celOf scope, gen := false }
/-- own names of a comprehension, with their slots -/
def ownOf (N : List Str) (scope : Scope) : List (Str × Nat) := scope.names.filterMap fun p => match p.2 with
  | .local | .cell => (N.findIdx? (· == p.1)).map fun i => (p.1, i)
  | _ => none
def ownI (N : List Str) (scope : Scope) : List Nat := (ownOf N scope).map (·.2)
mutual
def tgVars : Tg → List Nat
  | .var i => [i]
  | .tup l => tgVarsL l
def tgVarsL : List Tg → List Nat
  | [] => []
  | t :: l => tgVars t ++ tgVarsL l
end
mutual
def cE : Nat → Ctx → Expr → Option IE
  | 0, _, _ => none
  | n + 1, c, e => match e with
    | .Name x _ => (match c.slot x with
      | some i => some (.var i)
      | none => if c.isGl x = true then (c.glos.lookup x).map (.glo x) else none)
    | .Constant k _ _ => (cConst k).map .con
    | .BinOp a op b _ => if okBin op = true then (cE n c a).bind fun a' => (cE n c b).bind fun b' => some (.bin op a' b') else none
    | .UnaryOp .USub a _ => (cE n c a).bind fun a' => some (.neg a')
    | .UnaryOp .Not a _ => (cE n c a).bind fun a' => some (.notE a')
    | .Compare a [op] [b] _ => (cE n c a).bind fun a' => (cE n c b).bind fun b' => some (.cmp op a' b')
    | .Compare a [o1, o2] [b, d] _ => (cE n c a).bind fun a' => (cE n c b).bind fun b' => (cE n c d).bind fun d' => some (.cmp2 o1 o2 a' b' d')
    | .BoolOp .And [a, b] _ => (cE n c a).bind fun a' => (cE n c b).bind fun b' => some (.andE a' b')
    | .BoolOp .Or [a, b] _ => (cE n c a).bind fun a' => (cE n c b).bind fun b' => some (.orE a' b')
    | .BoolOp .And (a :: b :: d :: r) p => (cE n c a).bind fun a' => (cE n c (.BoolOp .And (b :: d :: r) p)).bind fun b' => some (.andE a' b')
    | .BoolOp .Or (a :: b :: d :: r) p => (cE n c a).bind fun a' => (cE n c (.BoolOp .Or (b :: d :: r) p)).bind fun b' => some (.orE a' b')
    | .IfExp t a b _ => (cE n c t).bind fun t' => (cE n c a).bind fun a' => (cE n c b).bind fun b' => some (.ifE t' a' b')
    | .Subscript a (.Slice lo hi none _) _ => (cE n c a).bind fun a' => (cO n c lo).bind fun lo' => (cO n c hi).bind fun hi' => some (.slc lo.isSome hi.isSome a' lo' hi')
    | .Subscript a b _ => if noSlice b = true then (cE n c a).bind fun a' => (cE n c b).bind fun b' => some (.idx a' b') else none
    | .Tuple es _ _ => (cEs n c es).bind fun l => some (.tup l)
    | .List es _ => (cEs n c es).bind fun l => some (.lst l)
    | .Call (.Name f _) [.Lambda ps body scope _] [] _ => if c.isGl f = true then (match c.fns.findIdx? (fun q => q.1 == f) with
      | some i => if (c.told.lookup i).isSome = true ∧ c.lam = true ∧ plainLam ps = true ∧ LamX.lamSB c.sc scope = true then (cE n { c with sc := scope, blk := true, lam := false, told := [], cel := [], gen := false } body).bind fun e' => some (.told i e') else none
      | none => none) else none
    | .Call (.Name f _) args [] _ => if c.isGl f = true then (match c.fns.findIdx? (fun q => q.1 == f) with
      | some i => (match c.fns[i]? with
        | some q => if q.1 = f ∧ q.2.length = args.length then (cEs n c args).bind fun l => some (.call i l) else none
        | none => none)
      | none => (match lrevOf c f args with
        | some a => (cE n c a).bind fun a' => some (.lrev a')
        | none => (match anyOf c f args with
          | some a => (cE n c a).bind fun a' => some (.anyNI a')
          | none => (match anyLOf c f args with
          | some a => (cE n c a).bind fun a' => some (.anyL a')
          | none => (match isTOf c f args with
            | some a => (cE n c a).bind fun a' => some (.isT a')
            | none => (match tzipOf c f args with
            | some (a, b) => (cE n c a).bind fun a' => (cE n c b).bind fun b' => some (.blt .tzip [a', b'])
            | none => (bltOf f args.length).bind fun b => (cEs n c args).bind fun l => some (.blt b l))))))) else none
    | .Call (.Name f _) args (kw :: kws) _ => (srtOf c f args (kw :: kws)).bind fun q => (cE n c q.1).bind fun e' => some (.blt (.srtQ q.2) [e'])
    | .Call (.Attribute o f ap) args [] p => if (ap.endLine == p.line) = true ∧ nameE o = true then (mthOf f args.length).bind fun k => (cE n c o).bind fun o' => (cEs n c args).bind fun l => some (.mth k o' l) else none
    | .ListComp elt [⟨tg, it, ifs, as⟩] scope _ =>
      if as = 0 ∧ blkC c.N c.sc scope (ownOf c.N scope) = true ∧ plainE it = true then
        (cI n c tg it).bind fun it' => (cTg { c with sc := relS scope c.sc, blk := true, lam := false, cel := celOf scope, gen := false } n tg).bind fun tg' =>
          (match ifs with
            | [] => some (IE.con (.bl true))
            | [t] => cE n { c with sc := relS scope c.sc, blk := true, lam := false, cel := celOf scope, gen := false } t
            | _ => (none : Option IE)).bind fun t' => (cE n { c with sc := relS scope c.sc, blk := true, lam := false, cel := celOf scope, gen := false } elt).bind fun e' =>
          if (tgVars tg').all (fun i => decide (i ∈ ownI c.N scope)) = true then some (.comp tg' it' t' e' (ownI c.N scope)) else none
      else none
    | .ListComp elt [⟨tg, it, [], as⟩, ⟨tg1, .Name y _, [], as1⟩] scope _ =>
      if as = 0 ∧ as1 = 0 ∧ blkC c.N c.sc scope (ownOf c.N scope) = true ∧ plainE it = true then
        (cI n c tg it).bind fun it' => (cTg (blkX c scope) n tg).bind fun tg' => ((blkX c scope).slot y).bind fun v1 => (cTg (blkX c scope) n tg1).bind fun tg1' => (cE n (blkX c scope) elt).bind fun e' =>
          if (tgVars tg').all (fun i => decide (i ∈ ownI c.N scope)) = true ∧ (tgVars tg1').all (fun i => decide (i ∈ ownI c.N scope)) = true then some (.comp2 tg' it' tg1' v1 e' (ownI c.N scope) (tgVars tg1')) else none
      else none
    | _ => none
def cO : Nat → Ctx → Option Expr → Option IE
  | 0, _, _ => none
  | n + 1, c, e => match e with
    | none => some .nop
    | some e => cE n c e
def cEs : Nat → Ctx → List Expr → Option (List IE)
  | 0, _, _ => none
  | n + 1, c, es => match es with
    | [] => some []
    | e :: r => (cE n c e).bind fun e' => (cEs n c r).bind fun r' => some (e' :: r')
def cI : Nat → Ctx → Expr → Expr → Option II
  | 0, _, _, _ => none
  | n + 1, c, tg, e => match e with
    | .Call (.Name f _) [a] [] _ => if c.isGl f = true ∧ f = ("range" : Str) then (cE n c a).bind fun a' => some (.rng1 [a'])
      else if c.isGl f = true ∧ f = ("reversed" : Str) then (cE n c a).bind fun a' => some (.rev a')
      else if c.isGl f = true ∧ f = ("enumerate" : Str) ∧ isTupE tg = true then (cE n c a).bind fun a' => some (.enm a')
      else (cE n c e).bind fun e' => some (.seq e')
    | .Call (.Name f _) [a, b] [] _ => if c.isGl f = true ∧ f = ("range" : Str) then (cE n c a).bind fun a' => (cE n c b).bind fun b' => some (.rng [a', b'])
      else if c.isGl f = true ∧ f = ("zip" : Str) ∧ isTupE tg = true then (cE n c a).bind fun a' => (cE n c b).bind fun b' => some (.zip [a', b'])
      else (cE n c e).bind fun e' => some (.seq e')
    | e => (cE n c e).bind fun e' => some (.seq e')
end
end Dat

/-! Dat4 -/
set_option linter.all false
set_option maxRecDepth 100000
set_option maxHeartbeats 1000000
/-! Dat4: what the small language computes, the model computes. Expressions. -/
namespace Dat
open PySem PySem.Spec L2 PyProof.Rows

def RelP (K : PySem.W.Frag) (ρ : List Addr) (H : Hp) : Option D → Option Addr → Prop
  | none, none => True
  | some d, some a => ∃ v, H a = some (.xd [("part", v)]) ∧ RelD K ρ H d v
  | _, _ => False
/-- from a store: whatever the store behind is, this holds -/
def Then (K : PySem.W.Frag) (T : List (Addr × Str)) {α : Type} (ρ : List Addr) (H : Hp) (r : Res α) (ok : α → Mem → List Addr → Hp → Prop) (ex : Str → Option D → Mem → List Addr → Hp → Prop) : Prop :=
  match r with
  | .ok a m => ∀ ρ' H', Ext ρ H ρ' H' → Sto K T ρ' H' m → ok a m ρ' H'
  | .exn c p m => ∀ ρ' H', Ext ρ H ρ' H' → Sto K T ρ' H' m → ex c p m ρ' H'
  | .stuck => False
section
variable {K : PySem.W.Frag} {T : List (Addr × Str)} {ρ ρ' ρ1 : List Addr} {H H' H1 : Hp} {m m1 : Mem} {α β : Type}
theorem Then.ext {r : Res α} {ok : α → Mem → List Addr → Hp → Prop} {ex : Str → Option D → Mem → List Addr → Hp → Prop} (h : Then K T ρ H r ok ex) (E : Ext ρ H ρ1 H1) : Then K T ρ1 H1 r ok ex := by
  cases r with
  | ok a m => exact fun ρ' H' E' S => h ρ' H' (E.trans E') S
  | exn c p m => exact fun ρ' H' E' S => h ρ' H' (E.trans E') S
  | stuck => exact h
theorem Then.imp {r : Res α} {ok ok' : α → Mem → List Addr → Hp → Prop} {ex ex' : Str → Option D → Mem → List Addr → Hp → Prop} (h : Then K T ρ H r ok ex)
    (h1 : ∀ a m ρ' H', Ext ρ H ρ' H' → Sto K T ρ' H' m → ok a m ρ' H' → ok' a m ρ' H') (h2 : ∀ c p m ρ' H', Ext ρ H ρ' H' → Sto K T ρ' H' m → ex c p m ρ' H' → ex' c p m ρ' H') : Then K T ρ H r ok' ex' := by
  cases r with
  | ok a m => exact fun ρ' H' E S => h1 _ _ _ _ E S (h ρ' H' E S)
  | exn c p m => exact fun ρ' H' E S => h2 _ _ _ _ _ E S (h ρ' H' E S)
  | stuck => exact h
theorem Then.bind {r : Res α} {f : α → Mem → Res β} {ok : β → Mem → List Addr → Hp → Prop} {ex : Str → Option D → Mem → List Addr → Hp → Prop} (h : Then K T ρ H (r.bind f) ok ex) :
    Then K T ρ H r (fun a m ρ1 H1 => Then K T ρ1 H1 (f a m) ok ex) ex := by
  cases r with
  | ok a m => exact fun ρ1 H1 E _ => Then.ext (r := f a m) h E
  | exn c p m => exact h
  | stuck => exact h
end
def REnv (K : PySem.W.Frag) (ρ : List Addr) (H : Hp) (env : EnvD) (σ : L2.St) : Prop := env.length = σ.length ∧ ∀ (i : Nat) (d : D), env[i]? = some (some d) → ∃ v, σ[i]? = some (some v) ∧ RelD K ρ H d v
section
variable {K : PySem.W.Frag} {T : List (Addr × Str)} {ρ ρ' : List Addr} {H H' : Hp} {m : Mem} {env : EnvD} {σ : L2.St}
theorem REnv.mono (R : REnv K ρ H env σ) (S : Sto K T ρ H m) (E : Ext ρ H ρ' H') : REnv K ρ' H' env σ := ⟨R.1, fun i d h => by
  obtain ⟨v, h1, h2⟩ := R.2 i d h
  exact ⟨v, h1, h2.mono S E⟩⟩
theorem REnv.set (R : REnv K ρ H env σ) {i : Nat} {d : D} {v : V} (r : RelD K ρ H d v) : REnv K ρ H (env.set i (some d)) (σ.set i (some v)) := by
  refine ⟨by simp [R.1], fun j d' h => ?_⟩
  by_cases hj : j = i
  · subst hj
    have hlt : j < env.length := by
      have := (List.getElem?_eq_some_iff.mp h).1
      simpa using this
    rw [List.getElem?_set_self hlt] at h
    cases h
    exact ⟨v, List.getElem?_set_self (R.1 ▸ hlt), r⟩
  · rw [List.getElem?_set_ne (Ne.symm hj)] at h
    obtain ⟨v', h1, h2⟩ := R.2 j d' h
    exact ⟨v', by rw [List.getElem?_set_ne (Ne.symm hj)]; exact h1, h2⟩
theorem REnv.wipe (R : REnv K ρ H env σ) : ∀ vs : List Nat, REnv K ρ H (wipeE env vs) (L2.wipe σ vs)
  | [] => R
  | v :: vs => by
    have ih := REnv.wipe R vs
    unfold wipeE L2.wipe
    refine ⟨by simp [ih.1], fun j d h => ?_⟩
    by_cases hj : j = v
    · subst hj
      have hlt : j < (wipeE env vs).length := by
        have := (List.getElem?_eq_some_iff.mp h).1
        simpa using this
      rw [List.getElem?_set_self hlt] at h
      cases h
    · rw [List.getElem?_set_ne (Ne.symm hj)] at h
      obtain ⟨v', h1, h2⟩ := ih.2 j d h
      exact ⟨v', by rw [List.getElem?_set_ne (Ne.symm hj)]; exact h1, h2⟩
end
/-- what an exception's class, own dict and store must meet -/
def exW (K : PySem.W.Frag) (W : WX) (σ : L2.St) : Str → Option D → Mem → List Addr → Hp → Prop := fun cc p _ ρ' H' => ∀ dd, RelP K ρ' H' p dd → W (.ref (He.ga K cc)) dd σ H'
section
variable (K : PySem.W.Frag) (T : List (Addr × Str))
def tE (C : Ctl) (W : WX) (e : IE) : TE := fun σ H Q => ∃ ρ m env, Sto K T ρ H m ∧ REnv K ρ H env σ ∧ Then K T ρ H (evalE e C env m) (fun d _ ρ' H' => ∀ v, RelD K ρ' H' d v → Q v H') (exW K W σ)
def tT (C : Ctl) (W : WX) (e : IE) : TT := fun σ H Q => ∃ ρ m env, Sto K T ρ H m ∧ REnv K ρ H env σ ∧ Then K T ρ H (evalE e C env m) (fun d _ ρ' H' => ∃ b, d = .bl b ∧ Q b H') (exW K W σ)
def tA (C : Ctl) (W : WX) (l : List IE) : TA := fun σ H Q => ∃ ρ m env, Sto K T ρ H m ∧ REnv K ρ H env σ ∧ Then K T ρ H (evalEs l C env m) (fun ds _ ρ' H' => ∀ vs, RelDs K ρ' H' ds vs → Q vs H') (exW K W σ)
/-- a def's promise -/
def spF (P : Prog) (n i : Nat) : Sp := fun vs H Q E => ∃ ρ m ds, Sto K T ρ H m ∧ RelDs K ρ H ds vs ∧
  Then K T ρ H (runF P n i ds m) (fun d _ ρ' H' => ∀ v, RelD K ρ' H' d v → Q v H') (fun cc p _ ρ' H' => ∀ dd, RelP K ρ' H' p dd → E (.ref (He.ga K cc)) dd H')
end
theorem Then.ne {K : PySem.W.Frag} {T : List (Addr × Str)} {α : Type} {ρ : List Addr} {H : Hp} {r : Res α} {ok : α → Mem → List Addr → Hp → Prop} {ex : Str → Option D → Mem → List Addr → Hp → Prop} (h : Then K T ρ H r ok ex) : r ≠ .stuck := fun e => by
  rw [e] at h
  exact h
theorem runF_len {P : Prog} : ∀ {n i : Nat} {ds : List D} {m : Mem}, runF P n i ds m ≠ .stuck → ∃ fi, P.fns[i]? = some fi ∧ ds.length = fi.np
  | 0, _, _, _, h => absurd (runF_zero _ _ _ _) h
  | n + 1, i, ds, m, h => by
    rw [runF_succ] at h
    unfold stepF at h
    split at h
    · rename_i fi hf
      refine ⟨fi, hf, ?_⟩
      unfold bodyF at h
      split at h
      · assumption
      · exact absurd rfl h
    · exact absurd rfl h
structure FnsOk (c : Ctx) (Pg : Prog) (n : Nat) (T : List (Addr × Str)) (P : Program) (w : World) (K : PySem.W.Frag) (mg : Str → Option Value) (base : Heap) : Prop where
  fn : ∀ i q, c.fns[i]? = some q → ∃ f fd, mg q.1 = some (.ref f) ∧ PySem.W.keepIn K (.ref f) = true ∧ Binds K fd q.2 [] ∧ FnOk P w K mg base (L2.CX P w) n f fd q.2 (spF K T Pg n i)
  np : ∀ (i : Nat) (q : Str × List Str) (fi : FnI), c.fns[i]? = some q → Pg.fns[i]? = some fi → fi.np = q.2.length
/-- what a lambda of the body asks -/
structure LamOk (c : Ctx) (C : Ctl) (Pg : Prog) (n : Nat) (T : List (Addr × Str)) (X : Cx) : Prop where
  call2 : C.call2 = runF Pg (n - 2)
  code : ∃ cc PP, X.env.code = .ref cc ∧ LamX.TabB X.base X.mg cc PP ∧ (PP, X.env.qual ++ "<lambda>") ∈ T ∧ ∀ p ∈ T, p.1 = PP → p.2 = X.env.qual ++ "<lambda>"
/-- the except clauses of a told-def: their classes and texts -/
inductive HdM (K : PySem.W.Frag) (mg : Str → Option Value) (sg : Scope) : List ExceptHandler → List (Str × Str) → Prop
  | nil : HdM K mg sg [] []
  | cons {e ret : Str} {np p5 p6 p7 : Pos} {j : Nat} {hs : List ExceptHandler} {cl : List (Str × Str)} (hg : sg.names.lookup e = some .globalImplicit) (hd : (e == ("__debug__" : Str)) = false) (hm : mg e = some (.ref (He.ga K e))) (r : HdM K mg sg hs cl) :
      HdM K mg sg (.ExceptHandler (some (.Name e np)) none [.Return (some (.Constant (.str ret) j p5)) p6] p7 :: hs) ((e, ret) :: cl)
/-- the def at i calls what it got and tells what it raises by a text -/
def TolOk (K : PySem.W.Frag) (mg : Str → Option Value) (c : Ctx) (i : Nat) (cl : List (Str × Str)) : Prop :=
  ∃ (x a : Str) (g : Addr) (pg : Arguments) (bg : List Stmt) (sg : Scope) (Ng : List Str) (dV kV doc pm cdv ct oc : Value) (od an : Option Addr) (osl : Array (Option Value)) (h₀ : ExceptHandler) (hs : List ExceptHandler) (p1 p2 p3 p8 : Pos),
    c.fns[i]? = some (x, [a]) ∧ mg x = some (.ref g) ∧ PySem.W.keepIn K (.ref g) = true ∧ K.lookup g = some ⟨oc, od, .func (PySem.W.fnOf x x pg bg sg dV kV doc pm an cdv ct), osl⟩ ∧ PySem.W.codeIn K cdv x = true ∧
    Binds K (PySem.W.fnOf x x pg bg sg dV kV doc pm an cdv ct) [a] [] ∧ FnScope Ng [a] sg ∧ Ng[0]? = some a ∧ L2.Vis sg a ∧ (a == ("__debug__" : Str)) = false ∧ (a == ("__classdict__" : Str)) = false ∧
    bg = [.Try [.Return (some (.Call (.Name a p1) [] [] p2)) p3] (h₀ :: hs) [] [] p8] ∧ HdM K mg sg (h₀ :: hs) cl
structure Good (c : Ctx) (C : Ctl) (Pg : Prog) (n : Nat) (T : List (Addr × Str)) (X : Cx) (W : WX) : Prop where
  call : C.call = runF Pg n
  lam : c.lam = true → LamOk c C Pg n T X
  two : ∀ i cl, C.told.lookup i = some cl → 2 ≤ n
  calm : X.calm = true
  nd : X.N.Nodup
  hN : X.N = c.N
  sc : X.env.scope = c.sc
  room : Room n X.A
  tk : Takes X W
  po : PassesOwn (model X.prog X.w) X.A X.env X.xe
  fn : c.blk = false → ∀ x, X.fn x = true
  fnB : ∀ x, x ∈ c.cel → X.fn x = true
  gen : c.gen = true → ∃ cc PP, X.env.code = .ref cc ∧ LamX.TabB X.base X.mg cc PP ∧ (PP, X.env.qual ++ "<genexpr>") ∈ T ∧ ∀ p ∈ T, p.1 = PP → p.2 = X.env.qual ++ "<genexpr>"
  fns : ∀ k, k ≤ n → FnsOk c Pg k T X.prog X.w X.K X.mg X.base
  glos : ∀ x d, c.glos.lookup x = some d → ∃ u v, X.mg x = some u ∧ RelV v u ∧ ∀ ρ H, RelD X.K ρ H d v
  blt : ∀ x ∈ bltNames, X.mg x = none
  told : ∀ i cl, C.told.lookup i = some cl → TolOk X.K X.mg c i cl
  exm : ∀ c c' b, C.sub c c' = some b → PySem.W.exmOne X.K (.ref (He.ga X.K c)) (.ref (He.ga X.K c')) = some b
  exs : ∀ x ∈ c.exs, PySem.W.excIn X.K (He.ga X.K x) He.veBase "ValueError.__new__" = true ∧ X.mg x = some (.ref (He.ga X.K x)) ∧ PySem.W.keepIn X.K (.ref (He.ga X.K x)) = true ∧ Raises X (.ref (He.ga X.K x))
noncomputable abbrev ctlOf (Pg : Prog) (n : Nat) : Ctl := Pg.ctl (runF Pg n) (runF Pg (n - 2)) n

theorem PE.imp {X : Cx} {e : Expr} {t t' : TE} (h : PE X e t) (i : ∀ σ H Q, t' σ H Q → t σ H Q) : PE X e t' := ⟨fun pins s σ H Q I q => h.run pins s σ H Q I (i σ H Q q)⟩
theorem PT.imp {X : Cx} {e : Expr} {t t' : TT} (h : PT X e t) (i : ∀ σ H Q, t' σ H Q → t σ H Q) : PT X e t' := ⟨fun pins s σ H Q I q => h.run pins s σ H Q I (i σ H Q q)⟩
theorem PW.imp {X : Cx} {e : Expr} {t t' : TT} (h : PW X e t) (i : ∀ σ H Q, t' σ H Q → t σ H Q) : PW X e t' := ⟨fun whole pins s σ H Q I q => h.run whole pins s σ H Q I (i σ H Q q)⟩
theorem PA.imp {X : Cx} {e : List Expr} {t t' : TA} (h : PA X e t) (i : ∀ σ H Q, t' σ H Q → t σ H Q) : PA X e t' := ⟨fun pos pins s σ H Q I q => h.run pos pins s σ H Q I (i σ H Q q)⟩

section
variable {K : PySem.W.Frag} {T : List (Addr × Str)} {C : Ctl} {W : WX} {ρ : List Addr} {H : Hp} {m : Mem} {env : EnvD} {σ : L2.St} {β : Type}
/-- behind an expression: its value, and what is left to do -/
structure Mid (K : PySem.W.Frag) (T : List (Addr × Str)) (ρ : List Addr) (H : Hp) (env : EnvD) (σ : L2.St) (k : D → Mem → Res β) (ok : β → Mem → List Addr → Hp → Prop) (ex : Str → Option D → Mem → List Addr → Hp → Prop) (x : V) (H1 : Hp) : Prop where
  ex : ∃ ρ1 m1 d, Ext ρ H ρ1 H1 ∧ Sto K T ρ1 H1 m1 ∧ REnv K ρ1 H1 env σ ∧ RelD K ρ1 H1 d x ∧ Then K T ρ1 H1 (k d m1) ok ex
theorem seqE {a : IE} {k : D → Mem → Res β} {ok : β → Mem → List Addr → Hp → Prop} {Q : VK} (S : Sto K T ρ H m) (R : REnv K ρ H env σ) (h : Then K T ρ H ((evalE a C env m).bind k) ok (exW K W σ))
    (q : ∀ x H1 ρ1 m1 d, Ext ρ H ρ1 H1 → Sto K T ρ1 H1 m1 → REnv K ρ1 H1 env σ → RelD K ρ1 H1 d x → Then K T ρ1 H1 (k d m1) ok (exW K W σ) → Q x H1) : tE K T C W a σ H Q :=
  ⟨ρ, m, env, S, R, h.bind.imp (fun d m1 ρ1 H1 E1 S1 h1 v r => q v H1 ρ1 m1 d E1 S1 (R.mono S E1) r h1) fun _ _ _ _ _ _ _ z => z⟩
theorem seqT {a : IE} {k : D → Mem → Res β} {ok : β → Mem → List Addr → Hp → Prop} {Q : Bool → Hp → Prop} (S : Sto K T ρ H m) (R : REnv K ρ H env σ) (h : Then K T ρ H ((evalE a C env m).bind fun x m1 => asB x fun b => k (.bl b) m1) ok (exW K W σ))
    (q : ∀ b H1 ρ1 m1, Ext ρ H ρ1 H1 → Sto K T ρ1 H1 m1 → REnv K ρ1 H1 env σ → Then K T ρ1 H1 (k (.bl b) m1) ok (exW K W σ) → Q b H1) : tT K T C W a σ H Q :=
  ⟨ρ, m, env, S, R, h.bind.imp (fun d m1 ρ1 H1 E1 S1 h1 => by
    cases d with
    | bl b => exact ⟨b, rfl, q b H1 ρ1 m1 E1 S1 (R.mono S E1) h1⟩
    | _ => exact (show False from h1).elim) fun _ _ _ _ _ _ _ z => z⟩
theorem seqA {a : List IE} {k : List D → Mem → Res β} {ok : β → Mem → List Addr → Hp → Prop} {Q : List V → Hp → Prop} (S : Sto K T ρ H m) (R : REnv K ρ H env σ) (h : Then K T ρ H ((evalEs a C env m).bind k) ok (exW K W σ))
    (q : ∀ x H1 ρ1 m1 d, Ext ρ H ρ1 H1 → Sto K T ρ1 H1 m1 → REnv K ρ1 H1 env σ → RelDs K ρ1 H1 d x → Then K T ρ1 H1 (k d m1) ok (exW K W σ) → Q x H1) : tA K T C W a σ H Q :=
  ⟨ρ, m, env, S, R, h.bind.imp (fun d m1 ρ1 H1 E1 S1 h1 v r => q v H1 ρ1 m1 d E1 S1 (R.mono S E1) r h1) fun _ _ _ _ _ _ _ z => z⟩
/-- the end: a value without a change of the store -/
theorem Then.ret {d : D} {v : V} {Q : VK} {ex : Str → Option D → Mem → List Addr → Hp → Prop} (S : Sto K T ρ H m) (h : Then K T ρ H (.ok d m) (fun d _ ρ' H' => ∀ v, RelD K ρ' H' d v → Q v H') ex) (r : RelD K ρ H d v) : Q v H := h ρ H (Ext.refl _ _) S v r
/-- .. with a new object aside -/
theorem Then.aside {d : D} {v : V} {Q : VK} {p : Addr} {o : HO} {ex : Str → Option D → Mem → List Addr → Hp → Prop} (S : Sto K T ρ H m) (h : Then K T ρ H (.ok d m) (fun d _ ρ' H' => ∀ v, RelD K ρ' H' d v → Q v H') ex) (np : H p = none)
    (r : ∀ ρ' H', Ext ρ H ρ' H' → H' = upd H p o → RelD K ρ' H' d v) : Q v (upd H p o) := by
  obtain ⟨E, S'⟩ := S.aside (o := o) np
  exact h ρ _ E S' v (r _ _ E rfl)
theorem Then.alloc {ds : List D} {vs : List V} {Q : VK} {p : Addr} {ex : Str → Option D → Mem → List Addr → Hp → Prop} (S : Sto K T ρ H m) (h : Then K T ρ H (.ok (.ref m.length) (m ++ [.lst ds])) (fun d _ ρ' H' => ∀ v, RelD K ρ' H' d v → Q v H') ex) (np : H p = none)
    (r : RelDs K ρ H ds vs) : Q (.ref p) (upd H p (.lst vs)) := by
  obtain ⟨E, S'⟩ := S.alloc np r
  exact h _ _ E S' _ (.ref (by rw [← S.len]; simp))
theorem RelDs.length {ds : List D} {vs : List V} (h : RelDs K ρ H ds vs) : ds.length = vs.length := by
  match ds, vs, h with
  | _, _, .nil => rfl
  | _, _, .cons _ r => rw [List.length_cons, List.length_cons, r.length]
theorem RelDs.get {ds : List D} {vs : List V} {i : Nat} {d : D} (h : RelDs K ρ H ds vs) (e : ds[i]? = some d) : ∃ v, vs[i]? = some v ∧ RelD K ρ H d v := by
  match ds, vs, i, h with
  | _, _, _, .nil => simp at e
  | _, _, 0, .cons r _ => simp at e; subst e; exact ⟨_, rfl, r⟩
  | _, _, i + 1, .cons _ r => exact RelDs.get (i := i) r (by simpa using e)
theorem RelDs.append {ds es : List D} {vs ws : List V} (h : RelDs K ρ H ds vs) (q : RelDs K ρ H es ws) : RelDs K ρ H (ds ++ es) (vs ++ ws) := by
  match ds, vs, h with
  | _, _, .nil => exact q
  | _, _, .cons a r => exact .cons a (r.append q)
theorem RelDs.take {ds : List D} {vs : List V} (n : Nat) (h : RelDs K ρ H ds vs) : RelDs K ρ H (ds.take n) (vs.take n) := by
  match ds, vs, n, h with
  | _, _, _, .nil => simp; exact .nil
  | _, _, 0, .cons _ _ => exact .nil
  | _, _, n + 1, .cons a r => exact .cons a (r.take n)
theorem RelDs.drop {ds : List D} {vs : List V} (n : Nat) (h : RelDs K ρ H ds vs) : RelDs K ρ H (ds.drop n) (vs.drop n) := by
  match ds, vs, n, h with
  | _, _, _, .nil => simp; exact .nil
  | _, _, 0, .cons a r => exact .cons a r
  | _, _, n + 1, .cons a r => exact r.drop n
theorem RelDs.set {ds : List D} {vs : List V} (i : Nat) {d : D} {v : V} (q : RelD K ρ H d v) (h : RelDs K ρ H ds vs) : RelDs K ρ H (ds.set i d) (vs.set i v) := by
  match ds, vs, i, h with
  | _, _, _, .nil => simp; exact .nil
  | _, _, 0, .cons _ r => exact .cons q r
  | _, _, i + 1, .cons a r => exact .cons a (r.set i q)
theorem RelDs.eraseIdx {ds : List D} {vs : List V} (i : Nat) (h : RelDs K ρ H ds vs) : RelDs K ρ H (ds.eraseIdx i) (vs.eraseIdx i) := by
  match ds, vs, i, h with
  | _, _, _, .nil => simp; exact .nil
  | _, _, 0, .cons _ r => exact r
  | _, _, i + 1, .cons a r => exact .cons a (r.eraseIdx i)
theorem RelDs.dropLast {ds : List D} {vs : List V} (h : RelDs K ρ H ds vs) : RelDs K ρ H ds.dropLast vs.dropLast := by
  rw [List.dropLast_eq_take, List.dropLast_eq_take, h.length]
  exact h.take _
theorem RelDs.reverse {ds : List D} {vs : List V} (h : RelDs K ρ H ds vs) : RelDs K ρ H ds.reverse vs.reverse := by
  match ds, vs, h with
  | _, _, .nil => exact .nil
  | _, _, .cons a r =>
    rw [List.reverse_cons, List.reverse_cons]
    exact r.reverse.append (.cons a .nil)
theorem RelDs.rep {ds : List D} {vs : List V} (h : RelDs K ρ H ds vs) : ∀ k : Nat, RelDs K ρ H (List.replicate k ds).flatten (List.replicate k vs).flatten
  | 0 => .nil
  | k + 1 => by
    rw [List.replicate_succ, List.replicate_succ, List.flatten_cons, List.flatten_cons]
    exact h.append (h.rep k)
theorem RelDs.cutD {ds : List D} {vs : List V} (lo hi : Option Int) (h : RelDs K ρ H ds vs) : RelDs K ρ H (cutD ds lo hi) (cutV vs lo hi) := by
  unfold Dat.cutD cutV
  rw [h.length]
  exact (h.drop _).take _
/-- a list, a tuple of the store, as it is read -/
theorem seq_read {x : V} {d : D} {l : List D} (S : Sto K T ρ H m) (r : RelD K ρ H d x) (h : seqD m d = some l) : ∃ a vs, x = .ref a ∧ (SqL K H a vs ∨ SqT K H a vs) ∧ RelDs K ρ H l vs := by
  cases r with
  | tup h1 h2 => cases h; exact ⟨_, _, rfl, .inr h1, h2⟩
  | fro h1 h2 =>
    cases h
    refine ⟨_, _, rfl, .inl ?_, h2⟩
    rcases h1 with ⟨o, h1⟩ | h1
    · exact .inl (.inr ⟨o, h1⟩)
    · exact .inr h1
  | @ref i a e =>
    simp only [seqD] at h
    split at h
    · rename_i l' hm
      cases h
      obtain ⟨b, e2, vs, h1, h2⟩ := S.cell i _ hm
      rw [e] at e2
      cases e2
      exact ⟨_, vs, rfl, .inl (SqL.of h1), h2⟩
    · cases h
  | _ => cases h
theorem lst_at {i : Nat} {a : Addr} {l : List D} (S : Sto K T ρ H m) (e : ρ[i]? = some a) (h : m[i]? = some (.lst l)) : ∃ vs, H a = some (.lst vs) ∧ RelDs K ρ H l vs := by
  obtain ⟨b, e2, vs, h1, h2⟩ := S.cell i _ h
  rw [e] at e2
  cases e2
  exact ⟨vs, h1, h2⟩
mutual
theorem dp0 {d : D} {v : V} {p : PyData} (r : RelD K ρ H d v) (h : toPy0 d = some p) : Dp K H v p := by
  match d, v, r with
  | _, _, .non => simp only [toPy0, Option.some.injEq] at h; subst h; exact .non
  | _, _, .bl b => simp only [toPy0, Option.some.injEq] at h; subst h; exact .bl b
  | _, _, .int i => simp only [toPy0, Option.some.injEq] at h; subst h; exact .int i
  | _, _, .str x => simp only [toPy0, Option.some.injEq] at h; subst h; exact .str x
  | _, _, .tup h1 h2 =>
    simp only [toPy0, Option.map_eq_some_iff] at h
    obtain ⟨ps, e, rfl⟩ := h
    exact .tup h1 (dp0s h2 e)
  | _, _, .fro h1 h2 =>
    simp only [toPy0, Option.map_eq_some_iff] at h
    obtain ⟨ps, e, rfl⟩ := h
    refine .lst ?_ (dp0s h2 e)
    rcases h1 with ⟨o, h1⟩ | h1
    · exact .inl (.inr ⟨o, h1⟩)
    · exact .inr h1
  | _, _, .ref _ => simp [toPy0] at h
theorem dp0s {d : List D} {v : List V} {p : List PyData} (r : RelDs K ρ H d v) (h : toPy0L d = some p) : DpAll K H v p := by
  match d, v, r with
  | _, _, .nil => simp only [toPy0L, Option.some.injEq] at h; subst h; exact .nil
  | _, _, .cons (d := d) (ds := ds) r1 r2 =>
    simp only [toPy0L] at h
    cases e1 : toPy0 d with
    | none => rw [e1] at h; cases h
    | some x =>
      cases e2 : toPy0L ds with
      | none => rw [e1, e2] at h; cases h
      | some xs =>
        rw [e1, e2] at h
        cases h
        exact .cons (dp0 r1 e1) (dp0s r2 e2)
end
theorem dpA {d : D} {v : V} {p : PyData} (S : Sto K T ρ H m) (r : RelD K ρ H d v) (h : toPyA m d = some p) : Dp K H v p := by
  match d, v, r with
  | .ref i, _, .ref (a := a) e =>
    simp only [toPyA] at h
    split at h
    · rename_i l hm
      rw [Option.map_eq_some_iff] at h
      obtain ⟨ps, e1, rfl⟩ := h
      obtain ⟨vs, h1, h2⟩ := lst_at S e hm
      exact .lst (SqL.of h1) (dp0s h2 e1)
    · cases h
  | .non, _, r => exact dp0 r (by simpa [toPyA] using h)
  | .bl b, _, r => exact dp0 r (by simpa [toPyA] using h)
  | .int b, _, r => exact dp0 r (by simpa [toPyA] using h)
  | .str b, _, r => exact dp0 r (by simpa [toPyA] using h)
  | .tup l, _, r => exact dp0 r (by simpa [toPyA] using h)
  | .fro l, _, r => exact dp0 r (by simpa [toPyA] using h)
theorem dpAs (S : Sto K T ρ H m) : ∀ {d : List D} {v : List V} {p : List PyData}, RelDs K ρ H d v → toPyAL m d = some p → DpAll K H v p
  | _, _, _, .nil, h => by simp only [toPyAL, Option.some.injEq] at h; subst h; exact .nil
  | _, _, _, .cons r1 r2, h => by
    simp only [toPyAL] at h
    split at h
    · rename_i x xs e1 e2
      cases h
      exact .cons (dpA S r1 e1) (dpAs S r2 e2)
    · cases h
theorem dp_of {d : D} {v : V} {p : PyData} (S : Sto K T ρ H m) (r : RelD K ρ H d v) (h : toPy m d = some p) : Dp K H v p := by
  match d, v, r with
  | .ref i, _, .ref (a := a) e =>
    simp only [toPy] at h
    split at h
    · rename_i l hm
      rw [Option.map_eq_some_iff] at h
      obtain ⟨ps, e1, rfl⟩ := h
      obtain ⟨vs, h1, h2⟩ := lst_at S e hm
      exact .lst (SqL.of h1) (dpAs S h2 e1)
    · cases h
  | .non, _, r => exact dp0 r (by simpa [toPy] using h)
  | .bl b, _, r => exact dp0 r (by simpa [toPy] using h)
  | .int b, _, r => exact dp0 r (by simpa [toPy] using h)
  | .str b, _, r => exact dp0 r (by simpa [toPy] using h)
  | .tup b, _, r => exact dp0 r (by simpa [toPy] using h)
  | .fro b, _, r => exact dp0 r (by simpa [toPy] using h)
end
end Dat

/-! Dat5 -/
set_option linter.all false
set_option maxRecDepth 100000
set_option maxHeartbeats 1000000
/-! Dat5: the operations. -/
namespace Dat
open PySem PySem.Spec L2 PyProof.Rows

section
variable {X : Cx} {T : List (Addr × Str)}
/-- a two-place operation on data -/
def rD (K : PySem.W.Frag) (T : List (Addr × Str)) (f : D → D → Mem → Res D) : R2 := fun x y H Q => ∃ ρ m dx dy ex, Sto K T ρ H m ∧ RelD K ρ H dx x ∧ RelD K ρ H dy y ∧
  Then K T ρ H (f dx dy m) (fun d _ ρ' H' => ∀ v, RelD K ρ' H' d v → Q v H') ex
theorem o_add : OpR X (binaryOp .Add) (rD X.K T addD) := by
  intro pins s σ H x y v u Q I rx ry h
  obtain ⟨ρ, m, dx, dy, ex, S, hx, hy, h⟩ := h
  unfold addD at h
  split at h
  · cases hx
    cases hy
    exact L2.op_add pins s σ H _ _ v u Q I rx ry ⟨_, _, rfl, rfl, Then.ret S h (.int _)⟩
  · cases hx
    cases hy
    split at h
    · rename_i hl
      exact L2.op_add_str pins s σ H _ _ v u Q I rx ry ⟨_, _, rfl, rfl, hl, Then.ret S h (.str _)⟩
    · exact (show False from h).elim
  · cases hx with
    | tup h1 r1 =>
    cases hy with
    | tup h2 r2 =>
    split at h
    · rename_i hl
      rw [r1.length, r2.length] at hl
      refine L2.op_catA pins s σ H _ _ v u Q I rx ry ⟨_, _, _, _, rfl, rfl, h1, h2, hl, fun e => ?_, fun e1 e2 => ?_, fun e1 e2 p np => Then.aside S h np fun ρ' H' E e => .tup (.inl (.inl (by rw [e]; exact upd_same))) ((r1.append r2).mono S E)⟩
      · subst e
        cases r1
        exact Then.ret S h (.tup h2 r2)
      · subst e2
        cases r2
        rw [List.append_nil] at h
        exact Then.ret S h (.tup h1 r1)
    · exact (show False from h).elim
  · cases hx with
    | ref e1 =>
    cases hy with
    | ref e2 =>
    split at h
    · rename_i a b ha hb
      split at h
      · rename_i hl
        obtain ⟨vs, h1, r1⟩ := lst_at S e1 ha
        obtain ⟨ws, h2, r2⟩ := lst_at S e2 hb
        rw [r1.length, r2.length] at hl
        exact L2.op_cat pins s σ H _ _ v u Q I rx ry ⟨_, _, _, _, rfl, rfl, h1, h2, hl, fun p np => Then.alloc S h np (r1.append r2)⟩
      · exact (show False from h).elim
    · exact (show False from h).elim
  · exact (show False from h).elim
theorem o_mul : OpR X (binaryOp .Mult) (rD X.K T mulD) := by
  intro pins s σ H x y v u Q I rx ry h
  obtain ⟨ρ, m, dx, dy, ex, S, hx, hy, h⟩ := h
  unfold mulD at h
  split at h
  · cases hx
    cases hy
    split at h
    · rename_i hg
      exact L2.op_mulX pins s σ H _ _ v u Q I rx ry ⟨_, _, rfl, rfl, hg, Then.ret S h (.int _)⟩
    · exact (show False from h).elim
  · cases hx
    cases hy
    split at h
    · rename_i hg
      obtain ⟨t1, rfl⟩ := rx
      obtain ⟨t2, rfl⟩ := ry
      exact PySem.P.mul_str_none (by omega) (by omega) ⟨.str Str.empty, H, I.tok _, ⟨_, rfl⟩, Then.ret S h (.str _)⟩
    · exact (show False from h).elim
  · cases hx with
    | tup h1 r1 =>
    cases hy
    split at h
    · rename_i hl
      refine L2.op_repT pins s σ H _ _ v u Q I rx ry ⟨_, _, _, rfl, rfl, h1, fun e => hl.1 ?_, hl.2.1, hl.2.2.1, by rw [← r1.length]; exact hl.2.2.2, fun p np => Then.aside S h np fun ρ' H' E e => .tup (.inl (.inl (by rw [e]; exact upd_same))) ((r1.rep _).mono S E)⟩
      subst e
      cases r1
      rfl
    · exact (show False from h).elim
  · cases hx with
    | ref e1 =>
    cases hy
    split at h
    · rename_i a ha
      split at h
      · rename_i hl
        obtain ⟨vs, h1, r1⟩ := lst_at S e1 ha
        rw [r1.length] at hl
        exact L2.op_rep pins s σ H _ _ v u Q I rx ry ⟨_, _, _, rfl, rfl, h1, hl.1, hl.2.1, hl.2.2, fun p np => Then.alloc S h np (r1.rep _)⟩
      · exact (show False from h).elim
    · exact (show False from h).elim
  · exact (show False from h).elim
theorem o_bin {op : Operator} (hop : okBin op = true) : OpR X (binaryOp op) (rD X.K T (binD op)) := by
  cases op with
  | Add => exact o_add
  | Mult => exact o_mul
  | Sub =>
    intro pins s σ H x y v u Q I rx ry h
    obtain ⟨ρ, m, dx, dy, ex, S, hx, hy, h⟩ := h
    simp only [binD] at h
    split at h
    · cases hx
      cases hy
      exact L2.op_sub pins s σ H _ _ v u Q I rx ry ⟨_, _, rfl, rfl, Then.ret S h (.int _)⟩
    · cases hx
      cases hy
      exact TB.op_subB pins s σ H _ _ v u Q I rx ry ⟨_, _, rfl, rfl, Then.ret S h (.int _)⟩
    · exact (show False from h).elim
  | FloorDiv =>
    intro pins s σ H x y v u Q I rx ry h
    obtain ⟨ρ, m, dx, dy, ex, S, hx, hy, h⟩ := h
    simp only [binD] at h
    split at h
    · cases hx
      cases hy
      split at h
      · rename_i hg
        have o : OpR X (binaryOp .FloorDiv) (rI DivG fun i j => .int (i.fdiv j)) := opI fun _ _ _ _ _ _ _ hc q => floordiv_int hc.1 q (.inl hc.2)
        exact o pins s σ H _ _ v u Q I rx ry ⟨_, _, rfl, rfl, hg, Then.ret S h (.int _)⟩
      · exact (show False from h).elim
    · exact (show False from h).elim
  | Mod =>
    intro pins s σ H x y v u Q I rx ry h
    obtain ⟨ρ, m, dx, dy, ex, S, hx, hy, h⟩ := h
    simp only [binD] at h
    split at h
    · cases hx
      cases hy
      split at h
      · rename_i hg
        exact L2.op_modN pins s σ H _ _ v u Q I rx ry ⟨_, _, rfl, rfl, hg, Then.ret S h (.int _)⟩
      · exact (show False from h).elim
    · exact (show False from h).elim
  | Pow =>
    intro pins s σ H x y v u Q I rx ry h
    obtain ⟨ρ, m, dx, dy, ex, S, hx, hy, h⟩ := h
    simp only [binD] at h
    split at h
    · cases hx
      cases hy
      split at h
      · rename_i hg
        exact L2.op_pow pins s σ H _ _ v u Q I rx ry ⟨_, _, rfl, rfl, hg, Then.ret S h (.int _)⟩
      · exact (show False from h).elim
    · exact (show False from h).elim
  | _ => cases hop
def rD1 (K : PySem.W.Frag) (T : List (Addr × Str)) (f : D → Mem → Res D) : V → Hp → VK → Prop := fun x H Q => ∃ ρ m dx ex, Sto K T ρ H m ∧ RelD K ρ H dx x ∧
  Then K T ρ H (f dx m) (fun d _ ρ' H' => ∀ v, RelD K ρ' H' d v → Q v H') ex
theorem o_neg : UnR X (unaryOp .USub) (rD1 X.K T negD) := by
  intro pins s σ H x v Q I rx h
  obtain ⟨ρ, m, dx, ex, S, hx, h⟩ := h
  unfold negD at h
  split at h
  · cases hx
    exact L2.un_neg pins s σ H _ v Q I rx ⟨_, rfl, Then.ret S h (.int _)⟩
  · exact (show False from h).elim
theorem liftO_then {K : PySem.W.Frag} {ρ : List Addr} {H : Hp} {m : Mem} {α β : Type} {o : Option α} {f : α → β} {ok : β → Mem → List Addr → Hp → Prop} {ex : Str → Option D → Mem → List Addr → Hp → Prop} (h : Then K T ρ H (liftO m (o.map f)) ok ex) :
    ∃ a, o = some a ∧ Then K T ρ H (.ok (f a) m) ok ex := by
  cases o with
  | none => exact (show False from h).elim
  | some a => exact ⟨a, rfl, h⟩
theorem o_eq (hu : X.A.units + 64 < cLine) : OpR X (compareOp .Eq) (rD X.K T (cmpD .Eq)) := by
  intro pins s σ H x y v u Q I rx ry h
  obtain ⟨ρ, m, dx, dy, ex, S, hx, hy, h⟩ := h
  simp only [cmpD] at h
  obtain ⟨b, e, h⟩ := liftO_then h
  unfold eqD at e
  split at e
  · rename_i p q hp hq
    split at e
    · rename_i hs
      cases e
      exact L2.op_eqD hu pins s σ H _ _ v u Q I rx ry ⟨p, q, dp_of S hx hp, dp_of S hy hq, hs.1, hs.2, Then.ret S h (.bl _)⟩
    · cases e
  · cases e
theorem o_ne (hu : X.A.units + 64 < cLine) : OpR X (compareOp .NotEq) (rD X.K T (cmpD .NotEq)) := by
  intro pins s σ H x y v u Q I rx ry h
  obtain ⟨ρ, m, dx, dy, ex, S, hx, hy, h⟩ := h
  simp only [cmpD] at h
  obtain ⟨b, e, h⟩ := liftO_then h
  unfold eqD at e
  split at e
  · rename_i p q hp hq
    split at e
    · rename_i hs
      cases e
      exact L2.op_neD hu pins s σ H _ _ v u Q I rx ry ⟨p, q, dp_of S hx hp, dp_of S hy hq, hs.1, hs.2, Then.ret S h (.bl _)⟩
    · cases e
  · cases e
theorem is_read {K : PySem.W.Frag} {ρ : List Addr} {H : Hp} {dx dy : D} {x y : V} {b : Bool} (hx : RelD K ρ H dx x) (hy : RelD K ρ H dy y) (h : isD dx dy = some b) :
    (y = .non ∧ decide (x = .non) = b) ∨ ∃ p q, x = .bl p ∧ y = .bl q ∧ decide (p = q) = b := by
  unfold isD at h
  split at h
  · cases hx
    cases hy
    cases h
    exact .inl ⟨rfl, by simp⟩
  · rename_i hn
    cases hy
    cases h
    refine .inl ⟨rfl, decide_eq_false fun e => ?_⟩
    subst e
    cases hx
    exact hn rfl
  · cases hx
    cases hy
    cases h
    exact .inr ⟨_, _, rfl, rfl, rfl⟩
  · cases h
theorem o_is : OpR X (compareOp .Is) (rD X.K T (cmpD .Is)) := by
  intro pins s σ H x y v u Q I rx ry h
  obtain ⟨ρ, m, dx, dy, ex, S, hx, hy, h⟩ := h
  simp only [cmpD] at h
  obtain ⟨b, e, h⟩ := liftO_then h
  rcases is_read hx hy e with ⟨rfl, e2⟩ | ⟨p, q, rfl, rfl, e2⟩
  · exact L2.op_isN pins s σ H _ _ v u Q I rx ry ⟨rfl, by rw [e2]; exact Then.ret S h (.bl _)⟩
  · exact L2.op_isBl pins s σ H _ _ v u Q I rx ry ⟨_, _, rfl, rfl, by rw [e2]; exact Then.ret S h (.bl _)⟩
theorem o_isnot : OpR X (compareOp .IsNot) (rD X.K T (cmpD .IsNot)) := by
  intro pins s σ H x y v u Q I rx ry h
  obtain ⟨ρ, m, dx, dy, ex, S, hx, hy, h⟩ := h
  simp only [cmpD] at h
  obtain ⟨b, e, h⟩ := liftO_then h
  rcases is_read hx hy e with ⟨rfl, e2⟩ | ⟨p, q, rfl, rfl, e2⟩
  · exact L2.op_notN pins s σ H _ _ v u Q I rx ry ⟨rfl, by rw [e2]; exact Then.ret S h (.bl _)⟩
  · exact L2.op_notBl pins s σ H _ _ v u Q I rx ry ⟨_, _, rfl, rfl, by rw [e2]; exact Then.ret S h (.bl _)⟩
theorem o_lt : OpR X (compareOp .Lt) (rD X.K T (cmpD .Lt)) := by
  intro pins s σ H x y v u Q I rx ry h
  obtain ⟨ρ, m, dx, dy, ex, S, hx, hy, h⟩ := h
  simp only [cmpD] at h
  split at h
  · cases hx
    cases hy
    exact L2.op_lt pins s σ H _ _ v u Q I rx ry ⟨_, _, rfl, rfl, Then.ret S h (.bl _)⟩
  · exact (show False from h).elim
theorem o_le : OpR X (compareOp .LtE) (rD X.K T (cmpD .LtE)) := by
  intro pins s σ H x y v u Q I rx ry h
  obtain ⟨ρ, m, dx, dy, ex, S, hx, hy, h⟩ := h
  simp only [cmpD] at h
  split at h
  · cases hx
    cases hy
    exact L2.op_le pins s σ H _ _ v u Q I rx ry ⟨_, _, rfl, rfl, Then.ret S h (.bl _)⟩
  · exact (show False from h).elim
theorem o_gt : OpR X (compareOp .Gt) (rD X.K T (cmpD .Gt)) := by
  intro pins s σ H x y v u Q I rx ry h
  obtain ⟨ρ, m, dx, dy, ex, S, hx, hy, h⟩ := h
  simp only [cmpD] at h
  split at h
  · cases hx
    cases hy
    exact L2.op_gt pins s σ H _ _ v u Q I rx ry ⟨_, _, rfl, rfl, Then.ret S h (.bl _)⟩
  · exact (show False from h).elim
theorem o_ge : OpR X (compareOp .GtE) (rD X.K T (cmpD .GtE)) := by
  intro pins s σ H x y v u Q I rx ry h
  obtain ⟨ρ, m, dx, dy, ex, S, hx, hy, h⟩ := h
  simp only [cmpD] at h
  split at h
  · cases hx
    cases hy
    exact L2.op_ge pins s σ H _ _ v u Q I rx ry ⟨_, _, rfl, rfl, Then.ret S h (.bl _)⟩
  · exact (show False from h).elim
end
end Dat

/-! Dat6 -/
set_option linter.all false
set_option maxRecDepth 100000
set_option maxHeartbeats 1000000
/-! Dat6: subscripts, slices, built-in functions and methods. -/
namespace Dat
open PySem PySem.Spec L2 PyProof.Rows

section
variable {X : Cx} {T : List (Addr × Str)}
theorem atI_get {α : Type} {xs : List α} {i : Int} {v : α} (h : atI xs i = some v) : ∃ j, ixN xs.length i = some j ∧ xs[j]? = some v := by
  unfold atI at h
  cases e : ixN xs.length i with
  | none => rw [e] at h; cases h
  | some j => rw [e] at h; exact ⟨j, rfl, h⟩
theorem atI_rel {K : PySem.W.Frag} {ρ : List Addr} {H : Hp} {l : List D} {vs : List V} {i : Int} {d : D} (r : RelDs K ρ H l vs) (h : atI l i = some d) : ∃ v, atI vs i = some v ∧ RelD K ρ H d v := by
  obtain ⟨j, h1, h2⟩ := atI_get h
  obtain ⟨v, h3, h4⟩ := r.get h2
  refine ⟨v, ?_, h4⟩
  unfold atI
  rw [← r.length, h1]
  exact h3
theorem o_idx : IxR X (rD X.K T idxD) := by
  intro value slice pins s σ H x y v u Q I rx ry h hs
  obtain ⟨ρ, m, dx, dy, ex, S, hx, hy, h⟩ := h
  unfold idxD at h
  split at h
  · cases hx
    cases hy
    split at h
    · rename_i hl
      obtain ⟨c, e, h⟩ := liftO_then h
      exact ix_str value slice pins s σ H _ _ v u Q I rx ry ⟨_, _, c, rfl, rfl, hl, e, Then.ret S h (.str _)⟩ hs
    · exact (show False from h).elim
  · cases hy
    split at h
    · rename_i l hl
      obtain ⟨a, vs, rfl, hq, r⟩ := seq_read S hx hl
      cases e : atI l _ with
      | none => rw [e] at h; exact (show False from h).elim
      | some d =>
        rw [e] at h
        obtain ⟨w, e2, r2⟩ := atI_rel r e
        rcases hq with hq | hq
        · exact ix_list value slice pins s σ H _ _ v u Q I rx ry ⟨_, _, _, w, rfl, rfl, hq, e2, Then.ret S h r2⟩ hs
        · exact ix_tup value slice pins s σ H _ _ v u Q I rx ry ⟨_, _, _, w, rfl, rfl, hq, e2, Then.ret S h r2⟩ hs
    · exact (show False from h).elim
  · exact (show False from h).elim
def rS (K : PySem.W.Frag) (T : List (Addr × Str)) : V → Option Int → Option Int → Hp → VK → Prop := fun x lo hi H Q => ∃ ρ m dx ex, Sto K T ρ H m ∧ RelD K ρ H dx x ∧
  Then K T ρ H (slcD dx lo hi m) (fun d _ ρ' H' => ∀ v, RelD K ρ' H' d v → Q v H') ex
theorem o_slc : SlR X (rS X.K T) := by
  intro pins s σ H x v vl vu lo hi sl Q I rx hs pl pu h
  obtain ⟨ρ, m, dx, ex, S, hx, h⟩ := h
  unfold slcD at h
  split at h
  · cases hx with
    | tup hq r =>
    refine sl_tupA pins s σ H _ v vl vu lo hi sl Q I rx hs pl pu ⟨_, _, rfl, hq, fun e => ?_, fun _ p np => Then.aside S h np fun ρ' H' E e => .tup (.inl (.inl (by rw [e]; exact upd_same))) ((r.cutD lo hi).mono S E)⟩
    refine Then.ret S h (.tup hq ?_)
    have e1 : cutD _ lo hi = _ := show cutD (_ : List D) lo hi = _ by
      unfold cutD
      rw [r.length, e.1, e.2, List.drop_zero, Nat.sub_zero, ← r.length, List.take_length]
    rw [e1]
    exact r
  · cases hx with
    | fro hq r =>
    refine sl_list pins s σ H _ v vl vu lo hi sl Q I rx hs pl pu ⟨_, _, rfl, ?_, fun p np => Then.alloc S h np (r.cutD lo hi)⟩
    rcases hq with ⟨o, h1⟩ | h1
    · exact .inl (.inr ⟨o, h1⟩)
    · exact .inr h1
  · cases hx with
    | ref e =>
    split at h
    · rename_i a ha
      obtain ⟨vs, hq, r⟩ := lst_at S e ha
      exact sl_list pins s σ H _ v vl vu lo hi sl Q I rx hs pl pu ⟨_, _, rfl, SqL.of hq, fun p np => Then.alloc S h np (r.cutD lo hi)⟩
    · exact (show False from h).elim
  · exact (show False from h).elim
/-- a call on data -/
def rC (K : PySem.W.Frag) (T : List (Addr × Str)) (f : List D → Mem → Res D) : List V → Hp → VK → Prop := fun xs H Q => ∃ ρ m ds ex, Sto K T ρ H m ∧ RelDs K ρ H ds xs ∧
  Then K T ρ H (f ds m) (fun d _ ρ' H' => ∀ v, RelD K ρ' H' d v → Q v H') ex
theorem rel1 {K : PySem.W.Frag} {ρ : List Addr} {H : Hp} {d : D} {xs : List V} (r : RelDs K ρ H [d] xs) : ∃ v, xs = [v] ∧ RelD K ρ H d v := by
  cases r with
  | cons a b => cases b; exact ⟨_, rfl, a⟩
theorem rel2 {K : PySem.W.Frag} {ρ : List Addr} {H : Hp} {d e : D} {xs : List V} (r : RelDs K ρ H [d, e] xs) : ∃ v w, xs = [v, w] ∧ RelD K ρ H d v ∧ RelD K ρ H e w := by
  cases r with
  | cons a b =>
    obtain ⟨w, e, c⟩ := rel1 b
    exact ⟨_, w, by rw [e], a, c⟩
theorem c_abs : CallR X (.builtin "abs") (rC X.K T (bltD .abs)) := by
  intro pins s σ H xs us Q I rx h
  obtain ⟨ρ, m, ds, ex, S, hx, h⟩ := h
  unfold bltD at h
  split at h <;> first
    | (rename_i hb; cases hb; done)
    | skip
  case h_1 =>
    obtain ⟨v, rfl, r⟩ := rel1 hx
    cases r
    exact call_abs pins s σ H _ us Q I rx ⟨_, rfl, Then.ret S h (.int _)⟩
  all_goals first | exact (show False from h).elim | (rename_i hb _; cases hb)
theorem c_len : CallR X (.builtin "len") (rC X.K T (bltD .len)) := by
  intro pins s σ H x us Q I rx h
  obtain ⟨ρ, m, ds, ex, S, hx, h⟩ := h
  unfold bltD at h
  split at h <;> first
    | (rename_i hb; cases hb; done)
    | skip
  case h_2 =>
    obtain ⟨v, rfl, r⟩ := rel1 hx
    cases r
    split at h
    · rename_i hl
      exact call_len_str pins s σ H _ us Q I rx ⟨_, rfl, hl, Then.ret S h (.int _)⟩
    · exact (show False from h).elim
  case h_3 =>
    obtain ⟨v, rfl, r⟩ := rel1 hx
    split at h
    · rename_i l hl
      obtain ⟨a, vs, rfl, hq, r2⟩ := seq_read S r hl
      exact call_len_seq pins s σ H _ us Q I rx ⟨_, _, rfl, hq, by rw [← r2.length]; exact Then.ret S h (.int _)⟩
    · exact (show False from h).elim
  all_goals first | exact (show False from h).elim | (rename_i hb _; cases hb)
theorem c_int : CallR X (.type "int") (rC X.K T (bltD .int)) := by
  intro pins s σ H x us Q I rx h
  obtain ⟨ρ, m, ds, ex, S, hx, h⟩ := h
  unfold bltD at h
  split at h <;> first
    | (rename_i hb; cases hb; done)
    | skip
  case h_4 =>
    obtain ⟨v, rfl, r⟩ := rel1 hx
    cases r
    exact call_int1 pins s σ H _ us Q I rx (.inl ⟨_, rfl, Then.ret S h (.int _)⟩)
  case h_5 =>
    obtain ⟨v, rfl, r⟩ := rel1 hx
    cases r
    exact call_int1 pins s σ H _ us Q I rx (.inr ⟨_, rfl, Then.ret S h (.int _)⟩)
  all_goals first | exact (show False from h).elim | (rename_i hb _; cases hb)
theorem c_str : CallR X (.type "str") (rC X.K T (bltD .str)) := by
  intro pins s σ H x us Q I rx h
  obtain ⟨ρ, m, ds, ex, S, hx, h⟩ := h
  unfold bltD at h
  split at h <;> first
    | (rename_i hb; cases hb; done)
    | skip
  case h_6 =>
    obtain ⟨v, rfl, r⟩ := rel1 hx
    cases r
    split at h
    · rename_i hl
      exact call_str_int pins s σ H _ us Q I rx ⟨_, rfl, hl, Then.ret S h (.str _)⟩
    · exact (show False from h).elim
  all_goals first | exact (show False from h).elim | (rename_i hb _; cases hb)
theorem c_list : CallR X (.type "list") (rC X.K T (bltD .list)) := by
  intro pins s σ H x us Q I rx h
  obtain ⟨ρ, m, ds, ex, S, hx, h⟩ := h
  unfold bltD at h
  split at h <;> first
    | (rename_i hb; cases hb; done)
    | skip
  case h_7 =>
    obtain ⟨v, rfl, r⟩ := rel1 hx
    split at h
    · rename_i l hl
      obtain ⟨a, vs, rfl, hq, r2⟩ := seq_read S r hl
      exact call_list_of pins s σ H _ us Q I rx ⟨_, _, rfl, hq, fun p np => Then.alloc S h np r2⟩
    · exact (show False from h).elim
  all_goals first | exact (show False from h).elim | (rename_i hb _; cases hb)
theorem c_tuple : CallR X (.type "tuple") (rC X.K T (bltD .tuple)) := by
  intro pins s σ H x us Q I rx h
  obtain ⟨ρ, m, ds, ex, S, hx, h⟩ := h
  unfold bltD at h
  split at h <;> first
    | (rename_i hb; cases hb; done)
    | skip
  case h_8 =>
    obtain ⟨v, rfl, r⟩ := rel1 hx
    cases r with
    | tup hq r2 => exact call_tuple_of pins s σ H _ us Q I rx ⟨_, _, rfl, .inr ⟨hq, Then.ret S h (.tup hq r2)⟩⟩
  case h_9 =>
    obtain ⟨v, rfl, r⟩ := rel1 hx
    split at h
    · rename_i l hl
      obtain ⟨a, vs, rfl, hq, r2⟩ := seq_read S r hl
      rcases hq with hq | hq
      · exact call_tuple_of pins s σ H _ us Q I rx ⟨_, _, rfl, .inl ⟨hq, fun p np => Then.aside S h np fun ρ' H' E e => .tup (.inl (.inl (by rw [e]; exact upd_same))) (r2.mono S E)⟩⟩
      · exact call_tuple_of pins s σ H _ us Q I rx ⟨_, _, rfl, .inr ⟨hq, Then.ret S h (.tup hq r2)⟩⟩
    · exact (show False from h).elim
  all_goals first | exact (show False from h).elim | (rename_i hb _; cases hb)
theorem c_min2 (hc : X.calm = true) : CallR X (.builtin "min") (rC X.K T (bltD .min2)) := by
  intro pins s σ H x us Q I rx h
  obtain ⟨ρ, m, ds, ex, S, hx, h⟩ := h
  unfold bltD at h
  split at h <;> first
    | (rename_i hb; cases hb; done)
    | skip
  case h_10 =>
    obtain ⟨v, w, rfl, r, r'⟩ := rel2 hx
    cases r
    cases r'
    exact call_min2 hc pins s σ H _ us Q I rx ⟨_, _, rfl, Then.ret S h (.int _)⟩
  all_goals first | exact (show False from h).elim | (rename_i hb _; cases hb)
theorem c_max2 (hc : X.calm = true) : CallR X (.builtin "max") (rC X.K T (bltD .max2)) := by
  intro pins s σ H x us Q I rx h
  obtain ⟨ρ, m, ds, ex, S, hx, h⟩ := h
  unfold bltD at h
  split at h <;> first
    | (rename_i hb; cases hb; done)
    | skip
  case h_11 =>
    obtain ⟨v, w, rfl, r, r'⟩ := rel2 hx
    cases r
    cases r'
    exact call_max2 hc pins s σ H _ us Q I rx ⟨_, _, rfl, Then.ret S h (.int _)⟩
  all_goals first | exact (show False from h).elim | (rename_i hb _; cases hb)
/-- a method on data -/
def rM (K : PySem.W.Frag) (T : List (Addr × Str)) (f : D → List D → Mem → Res D) : V → List V → Hp → VK → Prop := fun x xs H Q => ∃ ρ m dx ds ex, Sto K T ρ H m ∧ RelD K ρ H dx x ∧ RelDs K ρ H ds xs ∧
  Then K T ρ H (f dx ds m) (fun d _ ρ' H' => ∀ v, RelD K ρ' H' d v → Q v H') ex
theorem m_append : MtR X "list.append" (rM X.K T (mthD .append)) := by
  intro pins s σ H x xs v us Q I rx rxs h
  obtain ⟨ρ, m, dx, ds, ex, S, hx, hxs, h⟩ := h
  unfold mthD at h
  split at h
  · cases hx with
    | ref e =>
    split at h <;> first
      | (rename_i hb; cases hb; done)
      | (rename_i hb _; cases hb; done)
      | skip
    · rename_i xs' y hm _
      obtain ⟨vs, h1, r1⟩ := lst_at S e hm
      obtain ⟨w, rfl, r2⟩ := rel1 hxs
      split at h
      · rename_i hl
        rw [r1.length] at hl
        refine mt_append pins s σ H _ _ v us Q I rx rxs ⟨_, _, _, rfl, rfl, h1, hl, ?_⟩
        obtain ⟨E, S'⟩ := S.write e (r1.append (.cons r2 .nil))
        exact h _ _ E S' _ .non
      · exact (show False from h).elim
    all_goals first | exact (show False from h).elim | (rename_i hb _; cases hb)
  · exact (show False from h).elim
theorem m_insert : MtR X "list.insert" (rM X.K T (mthD .insert)) := by
  intro pins s σ H x xs v us Q I rx rxs h
  obtain ⟨ρ, m, dx, ds, ex, S, hx, hxs, h⟩ := h
  unfold mthD at h
  split at h
  · cases hx with
    | ref e =>
    split at h <;> first
      | (rename_i hb; cases hb; done)
      | (rename_i hb _; cases hb; done)
      | skip
    · rename_i xs' i y hm _
      obtain ⟨vs, h1, r1⟩ := lst_at S e hm
      cases hxs with
      | cons ri rr =>
      cases ri
      cases rr with
      | cons ry r0 =>
      cases r0
      split at h
      · rename_i hl
        rw [r1.length] at hl
        refine mt_insert pins s σ H _ _ v us Q I rx rxs ⟨_, _, _, _, rfl, rfl, h1, hl.1, hl.2.1, hl.2.2, ?_⟩
        obtain ⟨E, S'⟩ := S.write e (((r1.take i.toNat).append (.cons ry .nil)).append (r1.drop i.toNat))
        exact h _ _ E S' _ .non
      · exact (show False from h).elim
    all_goals first | exact (show False from h).elim | (rename_i hb _; cases hb)
  · exact (show False from h).elim
theorem m_pop : MtR X "list.pop" (rM X.K T (mthD .pop)) := by
  intro pins s σ H x xs v us Q I rx rxs h
  obtain ⟨ρ, m, dx, ds, ex, S, hx, hxs, h⟩ := h
  unfold mthD at h
  split at h
  · cases hx with
    | ref e =>
    split at h <;> first
      | (rename_i hb; cases hb; done)
      | (rename_i hb _; cases hb; done)
      | skip
    · rename_i xs' hm _
      obtain ⟨vs, h1, r1⟩ := lst_at S e hm
      cases hxs
      split at h
      · rename_i y hy
        obtain ⟨w, e2, r2⟩ := r1.get hy
        rw [r1.length] at e2
        refine mt_pop pins s σ H _ _ v us Q I rx rxs ⟨_, _, w, rfl, rfl, h1, e2, ?_⟩
        obtain ⟨E, S'⟩ := S.write e r1.dropLast
        exact h _ _ E S' _ (r2.mono S E)
      · exact (show False from h).elim
    all_goals first | exact (show False from h).elim | (rename_i hb _; cases hb)
  · exact (show False from h).elim
theorem m_popAt : MtR X "list.pop" (rM X.K T (mthD .popAt)) := by
  intro pins s σ H x xs v us Q I rx rxs h
  obtain ⟨ρ, m, dx, ds, ex, S, hx, hxs, h⟩ := h
  unfold mthD at h
  split at h
  · cases hx with
    | ref e =>
    split at h <;> first
      | (rename_i hb; cases hb; done)
      | (rename_i hb _; cases hb; done)
      | skip
    · rename_i xs' i hm _
      obtain ⟨vs, h1, r1⟩ := lst_at S e hm
      obtain ⟨w, rfl, r2⟩ := rel1 hxs
      cases r2
      split at h
      · rename_i hi
        split at h
        · rename_i k hk
          split at h
          · rename_i y hy
            obtain ⟨w, e2, r2⟩ := r1.get hy
            refine mt_popAt pins s σ H _ _ v us Q I rx rxs ⟨_, _, _, k, w, rfl, rfl, h1, hi.1, hi.2, by rw [← r1.length]; exact hk, e2, ?_⟩
            obtain ⟨E, S'⟩ := S.write e (r1.eraseIdx k)
            exact h _ _ E S' _ (r2.mono S E)
          · exact (show False from h).elim
        · exact (show False from h).elim
      · exact (show False from h).elim
    all_goals first | exact (show False from h).elim | (rename_i hb _; cases hb)
  · exact (show False from h).elim
end
end Dat

/-! Dat7 -/
set_option linter.all false
set_option maxRecDepth 100000
set_option maxHeartbeats 1000000
/-! Dat7: expressions, case by case. -/
namespace Dat
open PySem PySem.Spec L2 PyProof.Rows

theorem cE_plain : ∀ {n : Nat} {c : Ctx} {e : Expr} {ir : IE}, cE n c e = some ir → plainE e = true := by
  intro n c e ir h
  cases n with
  | zero => simp [cE] at h
  | succ n => cases e <;> first | rfl | simp [cE] at h
theorem noStar {e : Expr} (h : plainE e = true) (es : List Expr) (env : Env) : starEach (e :: es) env = (false, eval e env) :: starEach es env := by
  cases e <;> first | rfl | cases h
theorem noBehind {e : Expr} (h : plainE e = true) (op : CmpOp) : behindInMarks op e = false := by
  cases e <;> first | rfl | cases h
theorem noFold {e : Expr} (h : plainE e = true) (env : Env) (x : Value) : foldedSetIterable e env x = pure x := by
  cases e <;> first | rfl | cases h
theorem slot_ok {c : Ctx} {x : Str} {i : Nat} (h : c.slot x = some i) : c.N[i]? = some x ∧ L2.Vis c.sc x ∧ okName x = true := by
  unfold Ctx.slot at h
  split at h
  all_goals first
    | (split at h
       · split at h
         · rename_i hk _ _ _ hc
           cases h
           refine ⟨hc.1, ?_, hc.2⟩
           first | exact .inl hk | exact .inr (.inl hk) | exact .inr (.inr hk)
         · cases h
       · cases h)
    | cases h
theorem okName_of {x : Str} (h : okName x = true) : (x == ("__debug__" : Str)) = false ∧ (x == ("__classdict__" : Str)) = false ∧ x ≠ "__name__" := by
  unfold okName at h
  simp only [Bool.and_eq_true, Bool.not_eq_true'] at h
  exact ⟨h.1.1, h.1.2, fun e => by have := h.2; rw [e] at this; simp at this⟩
theorem isGl_of {c : Ctx} {x : Str} (h : c.isGl x = true) : c.sc.names.lookup x = some .globalImplicit ∧ (x == ("__debug__" : Str)) = false ∧ x ≠ "__name__" := by
  unfold Ctx.isGl at h
  rw [Bool.and_eq_true] at h
  exact ⟨of_decide_eq_true h.1, (okName_of h.2).1, (okName_of h.2).2.2⟩

section
variable {X : Cx} {T : List (Addr × Str)} {C : Ctl} {W : WX} {c : Ctx} {Pg : Prog} {lv : Nat}
theorem Good.gl (G : Good c C Pg lv T X W) {x : Str} (h : c.isGl x = true) : Gl X x := by
  show X.env.scope.names.lookup x = _
  rw [G.sc]
  exact (isGl_of h).1
theorem Good.u64 (G : Good c C Pg lv T X W) : X.A.units + 64 < cLine := G.room.units
theorem Good.u65 (G : Good c C Pg lv T X W) : X.A.units + 65 < cLine := by have := G.room.un; omega
theorem o_in (hu : X.A.units + 65 < cLine) : OpR X (compareOp .In) (rD X.K T (cmpD .In)) := by
  intro pins s σ H x y v u Q I rx ry h
  obtain ⟨ρ, m, dx, dy, ex, S, hx, hy, h⟩ := h
  simp only [cmpD] at h
  obtain ⟨b, e, h⟩ := liftO_then h
  unfold inD at e
  split at e
  · split at e
    · rename_i p q hp hq
      split at e
      · rename_i hs
        cases e
        have d1 := dp_of S hx hp
        have d2 : Dp X.K H y (.tuple q) := dp0 hy (by simp [toPy0, hq])
        obtain ⟨as, r1⟩ := Dp.reads I p x v d1 rx
        obtain ⟨bs, r2⟩ := Dp.reads I _ y u d2 ry
        exact SeqAt.in_tuple_reads r2 r1 (SeqAt.canLay_of_shaped hs.2) (SeqAt.canLay_of_shaped hs.1) (room_in_shaped hs.1 hu) ⟨.bl _, H, I, rfl, Then.ret S h (.bl _)⟩
      · cases e
    · cases e
  · split at e
    · rename_i l hm
      split at e
      · rename_i p q hp hq
        split at e
        · rename_i hs
          cases e
          have d1 := dp_of S hx hp
          have d2 : Dp X.K H y (.list q) := dp_of S hy (toPy_lst hm hq)
          exact L2.op_inD hu pins s σ H _ _ v u Q I rx ry ⟨p, q, d1, d2, hs.1, hs.2, Then.ret S h (.bl _)⟩
        · cases e
      · cases e
    · cases e
  · cases e
theorem o_notin (hu : X.A.units + 65 < cLine) : OpR X (compareOp .NotIn) (rD X.K T (cmpD .NotIn)) := by
  intro pins s σ H x y v u Q I rx ry h
  obtain ⟨ρ, m, dx, dy, ex, S, hx, hy, h⟩ := h
  simp only [cmpD] at h
  obtain ⟨b, e, h⟩ := liftO_then h
  unfold inD at e
  split at e
  · split at e
    · rename_i p q hp hq
      split at e
      · rename_i hs
        cases e
        have d1 := dp_of S hx hp
        have d2 : Dp X.K H y (.tuple q) := dp0 hy (by simp [toPy0, hq])
        obtain ⟨as, r1⟩ := Dp.reads I p x v d1 rx
        obtain ⟨bs, r2⟩ := Dp.reads I _ y u d2 ry
        exact SeqAt.notIn_tuple_reads r2 r1 (SeqAt.canLay_of_shaped hs.2) (SeqAt.canLay_of_shaped hs.1) (room_in_shaped hs.1 hu) ⟨.bl _, H, I, rfl, Then.ret S h (.bl _)⟩
      · cases e
    · cases e
  · split at e
    · rename_i l hm
      split at e
      · rename_i p q hp hq
        split at e
        · rename_i hs
          cases e
          have d1 := dp_of S hx hp
          have d2 : Dp X.K H y (.list q) := dp_of S hy (toPy_lst hm hq)
          exact L2.op_notInD hu pins s σ H _ _ v u Q I rx ry ⟨p, q, d1, d2, hs.1, hs.2, Then.ret S h (.bl _)⟩
        · cases e
      · cases e
    · cases e
  · cases e
theorem Good.cmp (G : Good c C Pg lv T X W) (op : CmpOp) : OpR X (compareOp op) (rD X.K T (cmpD op)) := by
  cases op with
  | Eq => exact o_eq G.u64
  | NotEq => exact o_ne G.u64
  | Lt => exact o_lt
  | LtE => exact o_le
  | Gt => exact o_gt
  | GtE => exact o_ge
  | Is => exact o_is
  | IsNot => exact o_isnot
  | In => exact o_in G.u65
  | NotIn => exact o_notin G.u65

/-! ### one lemma a form -/
abbrev OkE (X : Cx) (T : List (Addr × Str)) (C : Ctl) (W : WX) (e : Expr) (ir : IE) : Prop := PE X e (tE X.K T C W ir)
abbrev OkT (X : Cx) (T : List (Addr × Str)) (C : Ctl) (W : WX) (e : Expr) (ir : IE) : Prop := PT X e (tT X.K T C W ir)
theorem tT_tB {K : PySem.W.Frag} {ir : IE} {σ : L2.St} {H : Hp} {Q : Bool → Hp → Prop} (h : tT K T C W ir σ H Q) : tB (tE K T C W ir) σ H Q := by
  obtain ⟨ρ, m, env, S, R, h⟩ := h
  refine ⟨ρ, m, env, S, R, h.imp (fun d m ρ' H' _ _ q v r => ?_) fun _ _ _ _ _ _ _ z => z⟩
  obtain ⟨b, rfl, q⟩ := q
  cases r
  exact ⟨b, rfl, q⟩
theorem ok_val {e : Expr} {ir : IE} (h : OkE X T C W e ir) (he : ∀ whole, PySem.isTrue e X.env whole = (do let v ← whole; standAt e.pos; holding [v] (truthy v))) : OkT X T C W e ir :=
  PT.imp (pt_val h he) fun _ _ _ q => tT_tB q
theorem ok_var {x : Str} {pos : Pos} {i : Nat} (G : Good c C Pg lv T X W) (h : c.slot x = some i) : OkE X T C W (.Name x pos) (.var i) := by
  obtain ⟨h1, h2, h3⟩ := slot_ok h
  refine PE.imp (pe_var (i := i) (by rw [G.hN]; exact h1) (by rw [G.sc]; exact h2) (okName_of h3).1 (okName_of h3).2.1) fun σ H Q q => ?_
  obtain ⟨ρ, m, env, S, R, q⟩ := q
  unfold evalE at q
  split at q
  · rename_i d hd
    obtain ⟨v, e, r⟩ := R.2 i d hd
    exact ⟨v, e, Then.ret S q r⟩
  · exact (show False from q).elim
theorem ok_glo {x : Str} {pos : Pos} {d : D} (G : Good c C Pg lv T X W) (hg : c.isGl x = true) (h : c.glos.lookup x = some d) : OkE X T C W (.Name x pos) (.glo x d) := by
  obtain ⟨u, v, hm, r, rd⟩ := G.glos x d h
  refine PE.imp (pe_glob (G.gl hg) hm r (isGl_of hg).2.1) fun σ H Q q => ?_
  obtain ⟨ρ, m, env, S, R, q⟩ := q
  unfold evalE at q
  exact Then.ret S q (rd ρ H)
theorem ok_con {k : Const} {j : Nat} {pos : Pos} {d : D} (h : cConst k = some d) : OkE X T C W (.Constant k j pos) (.con d) := by
  cases k with
  | none => cases h; exact PE.imp pe_non fun σ H Q ⟨ρ, m, env, S, R, q⟩ => by unfold evalE at q; exact Then.ret S q .non
  | bool b => cases h; exact PE.imp pe_bl fun σ H Q ⟨ρ, m, env, S, R, q⟩ => by unfold evalE at q; exact Then.ret S q (.bl _)
  | int i => cases h; exact PE.imp pe_int fun σ H Q ⟨ρ, m, env, S, R, q⟩ => by unfold evalE at q; exact Then.ret S q (.int _)
  | str x => cases h; exact PE.imp pe_str fun σ H Q ⟨ρ, m, env, S, R, q⟩ => by unfold evalE at q; exact Then.ret S q (.str _)
  | _ => cases h
theorem ok_bin {a b : Expr} {a' b' : IE} {op : Operator} {pos : Pos} (ho : okBin op = true) (ha : OkE X T C W a a') (hb : OkE X T C W b b') : OkE X T C W (.BinOp a op b pos) (.bin op a' b') := by
  refine PE.imp (pe_op (o_bin (T := T) ho) ha hb) fun σ H Q ⟨ρ, m, env, S, R, q⟩ => ?_
  unfold evalE at q
  refine seqE S R q fun x H1 ρ1 m1 d1 E1 S1 R1 r1 q1 => ?_
  refine seqE S1 R1 q1 fun y H2 ρ2 m2 d2 E2 S2 R2 r2 q2 => ?_
  exact ⟨ρ2, m2, d1, d2, _, S2, r1.mono S1 E2, r2, q2⟩
theorem ok_neg {a : Expr} {a' : IE} {pos : Pos} (ha : OkE X T C W a a') : OkE X T C W (.UnaryOp .USub a pos) (.neg a') := by
  refine PE.imp (pe_un (o_neg (T := T)) ha) fun σ H Q ⟨ρ, m, env, S, R, q⟩ => ?_
  unfold evalE at q
  exact seqE S R q fun x H1 ρ1 m1 d1 E1 S1 R1 r1 q1 => ⟨ρ1, m1, d1, _, S1, r1, q1⟩
theorem asB_then {K : PySem.W.Frag} {ρ : List Addr} {H : Hp} {β : Type} {d : D} {v : V} {f : Bool → Res β} {ok : β → Mem → List Addr → Hp → Prop} {ex : Str → Option D → Mem → List Addr → Hp → Prop} (h : Then K T ρ H (asB d f) ok ex) (r : RelD K ρ H d v) :
    ∃ b, v = .bl b ∧ Then K T ρ H (f b) ok ex := by
  cases d with
  | bl b => cases r; exact ⟨b, rfl, h⟩
  | _ => exact (show False from h).elim
theorem ok_not {a : Expr} {a' : IE} {pos : Pos} (ha : OkE X T C W a a') : OkE X T C W (.UnaryOp .Not a pos) (.notE a') := by
  refine PE.imp (pe_not ha) fun σ H Q ⟨ρ, m, env, S, R, q⟩ => ?_
  unfold evalE at q
  refine seqE S R q fun x H1 ρ1 m1 d1 E1 S1 R1 r1 q1 => ?_
  obtain ⟨b, rfl, q2⟩ := asB_then q1 r1
  exact ⟨b, rfl, Then.ret S1 q2 (.bl _)⟩
theorem ok_notT {a : Expr} {a' : IE} {pos : Pos} (ha : OkT X T C W a a') : OkT X T C W (.UnaryOp .Not a pos) (.notE a') := by
  refine PT.imp (pt_not ha) fun σ H Q ⟨ρ, m, env, S, R, q⟩ => ?_
  unfold evalE at q
  refine seqT (k := fun x m1 => asB x fun b => Res.ok (D.bl (!b)) m1) S R q fun b H1 ρ1 m1 E1 S1 R1 q1 => ?_
  · obtain ⟨b', e, q⟩ := q1 ρ1 H1 (Ext.refl _ _) S1
    cases e
    exact q
theorem ok_cmp {a b : Expr} {a' b' : IE} {op : CmpOp} {pos : Pos} (G : Good c C Pg lv T X W) (pb : plainE b = true) (ha : OkE X T C W a a') (hb : OkE X T C W b b') : OkE X T C W (.Compare a [op] [b] pos) (.cmp op a' b') := by
  refine PE.imp (pe_cmpR (G.cmp op) ha hb (noBehind pb op)) fun σ H Q ⟨ρ, m, env, S, R, q⟩ => ?_
  unfold evalE at q
  refine seqE S R q fun x H1 ρ1 m1 d1 E1 S1 R1 r1 q1 => ?_
  refine seqE S1 R1 q1 fun y H2 ρ2 m2 d2 E2 S2 R2 r2 q2 => ?_
  exact ⟨ρ2, m2, d1, d2, _, S2, r1.mono S1 E2, r2, q2⟩
theorem ok_cmpT {a b : Expr} {a' b' : IE} {op : CmpOp} {pos : Pos} (G : Good c C Pg lv T X W) (pb : plainE b = true) (ha : OkE X T C W a a') (hb : OkE X T C W b b') : OkT X T C W (.Compare a [op] [b] pos) (.cmp op a' b') := by
  refine PT.imp (pt_cmpR (G.cmp op) ha hb (noBehind pb op)) fun σ H Q ⟨ρ, m, env, S, R, q⟩ => ?_
  unfold evalE at q
  refine seqE S R q fun x H1 ρ1 m1 d1 E1 S1 R1 r1 q1 => ?_
  refine seqE S1 R1 q1 fun y H2 ρ2 m2 d2 E2 S2 R2 r2 q2 => ?_
  refine ⟨ρ2, m2, d1, d2, _, S2, r1.mono S1 E2, r2, q2.imp (fun d m' ρ' H' _ _ z v r => ?_) fun _ _ _ _ _ _ _ z => z⟩
  obtain ⟨b, rfl, z⟩ := z
  cases r
  exact ⟨b, rfl, z⟩
theorem noLast {b d : Expr} (h : plainE d = true) (o1 o2 : CmpOp) : lastMarks [o1, o2] [b, d] = false := noBehind h o2
theorem ok_cmp2 {a b d : Expr} {a' b' d' : IE} {o1 o2 : CmpOp} {pos : Pos} (G : Good c C Pg lv T X W) (pd : plainE d = true) (ha : OkE X T C W a a') (hb : OkE X T C W b b') (hd : OkE X T C W d d') : OkE X T C W (.Compare a [o1, o2] [b, d] pos) (.cmp2 o1 o2 a' b' d') := by
  refine PE.imp (pe_chain (G.cmp o1) (G.cmp o2) ha hb hd (noLast pd o1 o2)) fun σ H Q ⟨ρ, m, env, S, R, q⟩ => ?_
  unfold evalE at q
  refine seqE S R q fun x H1 ρ1 m1 d1 E1 S1 R1 r1 q1 => ?_
  refine seqE S1 R1 q1 fun y H2 ρ2 m2 d2 E2 S2 R2 r2 q2 => ?_
  refine ⟨ρ2, m2, d1, d2, _, S2, r1.mono S1 E2, r2, q2.bind.imp (fun r m3 ρ3 H3 E3 S3 q3 z rz => ?_) fun _ _ _ _ _ _ _ z => z⟩
  obtain ⟨t, rfl, q4⟩ := asB_then q3 rz
  refine ⟨t, rfl, ?_⟩
  cases t with
  | false => exact Then.ret S3 q4 (.bl _)
  | true => exact seqE S3 (R2.mono S2 E3) q4 fun z H4 ρ4 m4 d4 E4 S4 R4 r4 q5 => ⟨ρ4, m4, d2, d4, _, S4, (r2.mono S2 E3).mono S3 E4, r4, q5⟩
theorem ok_cmp2T {a b d : Expr} {a' b' d' : IE} {o1 o2 : CmpOp} {pos : Pos} (G : Good c C Pg lv T X W) (pd : plainE d = true) (ha : OkE X T C W a a') (hb : OkE X T C W b b') (hd : OkE X T C W d d') : OkT X T C W (.Compare a [o1, o2] [b, d] pos) (.cmp2 o1 o2 a' b' d') := by
  refine PT.imp (pt_chain (G.cmp o1) (G.cmp o2) ha hb hd (noLast pd o1 o2)) fun σ H Q ⟨ρ, m, env, S, R, q⟩ => ?_
  unfold evalE at q
  refine seqE S R q fun x H1 ρ1 m1 d1 E1 S1 R1 r1 q1 => ?_
  refine seqE S1 R1 q1 fun y H2 ρ2 m2 d2 E2 S2 R2 r2 q2 => ?_
  refine ⟨ρ2, m2, d1, d2, _, S2, r1.mono S1 E2, r2, q2.bind.imp (fun r m3 ρ3 H3 E3 S3 q3 z rz => ?_) fun _ _ _ _ _ _ _ z => z⟩
  obtain ⟨t, rfl, q4⟩ := asB_then q3 rz
  refine ⟨t, rfl, ?_⟩
  cases t with
  | false =>
    obtain ⟨b, e, z⟩ := q4 ρ3 H3 (Ext.refl _ _) S3
    cases e
    exact ⟨false, rfl, z⟩
  | true =>
    refine seqE S3 (R2.mono S2 E3) q4 fun z H4 ρ4 m4 d4 E4 S4 R4 r4 q5 => ⟨ρ4, m4, d2, d4, _, S4, (r2.mono S2 E3).mono S3 E4, r4, q5.imp (fun d m' ρ' H' _ _ z v r => ?_) fun _ _ _ _ _ _ _ z => z⟩
    obtain ⟨b, rfl, z⟩ := z
    cases r
    exact ⟨b, rfl, z⟩
theorem ok_and {a b : Expr} {rest : List Expr} {a' b' : IE} {pos : Pos} (ha : OkE X T C W a a') (hb : OkE X T C W (.BoolOp .And (b :: rest) pos) b') : OkE X T C W (.BoolOp .And (a :: b :: rest) pos) (.andE a' b') := by
  refine PE.imp (pe_and ha hb) fun σ H Q ⟨ρ, m, env, S, R, q⟩ => ?_
  unfold evalE at q
  refine seqE S R q fun x H1 ρ1 m1 d1 E1 S1 R1 r1 q1 => ?_
  obtain ⟨t, rfl, q2⟩ := asB_then q1 r1
  refine ⟨t, rfl, ?_⟩
  cases t with
  | false => exact Then.ret S1 q2 (.bl _)
  | true => exact ⟨ρ1, m1, env, S1, R1, q2⟩
theorem ok_or {a b : Expr} {rest : List Expr} {a' b' : IE} {pos : Pos} (ha : OkE X T C W a a') (hb : OkE X T C W (.BoolOp .Or (b :: rest) pos) b') : OkE X T C W (.BoolOp .Or (a :: b :: rest) pos) (.orE a' b') := by
  refine PE.imp (pe_or ha hb) fun σ H Q ⟨ρ, m, env, S, R, q⟩ => ?_
  unfold evalE at q
  refine seqE S R q fun x H1 ρ1 m1 d1 E1 S1 R1 r1 q1 => ?_
  obtain ⟨t, rfl, q2⟩ := asB_then q1 r1
  refine ⟨t, rfl, ?_⟩
  cases t with
  | true => exact Then.ret S1 q2 (.bl _)
  | false => exact ⟨ρ1, m1, env, S1, R1, q2⟩
theorem tT_done {K : PySem.W.Frag} {ρ : List Addr} {H : Hp} {m : Mem} {b : Bool} {Q : Bool → Hp → Prop} {ex : Str → Option D → Mem → List Addr → Hp → Prop} (S : Sto K T ρ H m) (h : Then K T ρ H (Res.ok (D.bl b) m) (fun d _ ρ' H' => ∃ b, d = D.bl b ∧ Q b H') ex) : Q b H := by
  obtain ⟨b', e, z⟩ := h ρ H (Ext.refl _ _) S
  cases e
  exact z
theorem ok_andT {a b : Expr} {rest : List Expr} {a' b' : IE} {pos : Pos} (ha : OkT X T C W a a') (hb : PW X (.BoolOp .And (b :: rest) pos) (tT X.K T C W b')) : PW X (.BoolOp .And (a :: b :: rest) pos) (tT X.K T C W (.andE a' b')) := by
  refine PW.imp (pw_and ha hb) fun σ H Q ⟨ρ, m, env, S, R, q⟩ => ?_
  unfold evalE at q
  refine seqT (k := fun x m1 => asB x fun t => if t = true then evalE b' C env m1 else Res.ok (D.bl false) m1) S R q fun t H1 ρ1 m1 E1 S1 R1 q1 => ?_
  cases t with
  | false => exact tT_done S1 q1
  | true => exact ⟨ρ1, m1, env, S1, R1, q1⟩
theorem ok_orT {a b : Expr} {rest : List Expr} {a' b' : IE} {pos : Pos} (ha : OkT X T C W a a') (hb : PW X (.BoolOp .Or (b :: rest) pos) (tT X.K T C W b')) : PW X (.BoolOp .Or (a :: b :: rest) pos) (tT X.K T C W (.orE a' b')) := by
  refine PW.imp (pw_or ha hb) fun σ H Q ⟨ρ, m, env, S, R, q⟩ => ?_
  unfold evalE at q
  refine seqT (k := fun x m1 => asB x fun t => if t = true then Res.ok (D.bl true) m1 else evalE b' C env m1) S R q fun t H1 ρ1 m1 E1 S1 R1 q1 => ?_
  cases t with
  | true => exact tT_done S1 q1
  | false => exact ⟨ρ1, m1, env, S1, R1, q1⟩
theorem ok_if {t a b : Expr} {t' a' b' : IE} {pos : Pos} (ht : OkT X T C W t t') (ha : OkE X T C W a a') (hb : OkE X T C W b b') : OkE X T C W (.IfExp t a b pos) (.ifE t' a' b') := by
  refine PE.imp (pe_ifExp ht ha hb) fun σ H Q ⟨ρ, m, env, S, R, q⟩ => ?_
  unfold evalE at q
  refine seqT (k := fun x m1 => asB x fun t => if t = true then evalE a' C env m1 else evalE b' C env m1) S R q fun t H1 ρ1 m1 E1 S1 R1 q1 => ?_
  cases t with
  | true => exact ⟨ρ1, m1, env, S1, R1, q1⟩
  | false => exact ⟨ρ1, m1, env, S1, R1, q1⟩
theorem pt_if {t a b : Expr} {pos : Pos} {tt ta tb : TT} (ht : PT X t tt) (ha : PT X a ta) (hb : PT X b tb) : PT X (.IfExp t a b pos) (fun σ H Q => tt σ H fun c H1 => if c = true then ta σ H1 Q else tb σ H1 Q) := by
  refine ⟨fun pins s σ H Q I h => ?_⟩
  have e : PySem.isTrue (.IfExp t a b pos) X.env (eval (.IfExp t a b pos) X.env) = (do if ← PySem.isTrue t X.env (eval t X.env) then PySem.isTrue a X.env (eval a X.env) else PySem.isTrue b X.env (eval b X.env)) := by
    rw [PySem.isTrue]
  rw [e]
  refine wpAny_bind (thn (ht.run pins s σ H _ I h) fun d s1 ⟨H1, I1, q1⟩ => ?_)
  cases d with
  | true => exact ha.run pins s1 σ H1 Q I1 q1
  | false => exact hb.run pins s1 σ H1 Q I1 q1
theorem ok_ifT {t a b : Expr} {t' a' b' : IE} {pos : Pos} (ht : OkT X T C W t t') (ha : OkT X T C W a a') (hb : OkT X T C W b b') : OkT X T C W (.IfExp t a b pos) (.ifE t' a' b') := by
  refine PT.imp (pt_if ht ha hb) fun σ H Q ⟨ρ, m, env, S, R, q⟩ => ?_
  unfold evalE at q
  refine seqT (k := fun x m1 => asB x fun t => if t = true then evalE a' C env m1 else evalE b' C env m1) S R q fun t H1 ρ1 m1 E1 S1 R1 q1 => ?_
  cases t with
  | true => exact ⟨ρ1, m1, env, S1, R1, q1⟩
  | false => exact ⟨ρ1, m1, env, S1, R1, q1⟩
theorem ok_idx {a b : Expr} {a' b' : IE} {pos : Pos} (nb : noSlice b = true) (ha : OkE X T C W a a') (hb : OkE X T C W b b') : OkE X T C W (.Subscript a b pos) (.idx a' b') := by
  refine PE.imp (pe_ix (o_idx (T := T)) ha hb (fun o i => by cases b <;> first | rfl | cases nb)) fun σ H Q ⟨ρ, m, env, S, R, q⟩ => ?_
  unfold evalE at q
  refine seqE S R q fun x H1 ρ1 m1 d1 E1 S1 R1 r1 q1 => ?_
  refine seqE S1 R1 q1 fun y H2 ρ2 m2 d2 E2 S2 R2 r2 q2 => ?_
  exact ⟨ρ2, m2, d1, d2, _, S2, r1.mono S1 E2, r2, q2⟩
/-- a part of a slice -/
def tO (K : PySem.W.Frag) (T : List (Addr × Str)) (C : Ctl) (W : WX) (b : Bool) (e : IE) : TO := fun σ H Q => ∃ ρ m env, Sto K T ρ H m ∧ REnv K ρ H env σ ∧ Then K T ρ H (evalE e C env m) (fun d _ ρ' H' => ∃ o, partD b d = some o ∧ Q o H') (exW K W σ)
theorem PO.imp {e : Option Expr} {t t' : TO} (h : PO X e t) (i : ∀ σ H Q, t' σ H Q → t σ H Q) : PO X e t' := ⟨fun pins s σ H Q I q => h.run pins s σ H Q I (i σ H Q q)⟩
theorem ok_nop : PO X none (tO X.K T C W false .nop) := by
  refine PO.imp po_none fun σ H Q ⟨ρ, m, env, S, R, q⟩ => ?_
  unfold evalE at q
  obtain ⟨o, e, q⟩ := q ρ H (Ext.refl _ _) S
  cases e
  exact q
theorem ok_part {e : Expr} {e' : IE} (h : OkE X T C W e e') : PO X (some e) (tO X.K T C W true e') := by
  refine PO.imp (po_some h) fun σ H Q ⟨ρ, m, env, S, R, q⟩ => ?_
  refine ⟨ρ, m, env, S, R, q.imp (fun d m' ρ' H' _ _ z v r => ?_) fun _ _ _ _ _ _ _ z => z⟩
  obtain ⟨o, e, z⟩ := z
  cases d with
  | int i => cases e; cases r; exact ⟨i, rfl, z⟩
  | _ => cases e
theorem ok_slc {a : Expr} {lo hi : Option Expr} {a' lo' hi' : IE} {bl bh : Bool} {p pos : Pos} (ha : OkE X T C W a a') (hl : PO X lo (tO X.K T C W bl lo')) (hh : PO X hi (tO X.K T C W bh hi')) : OkE X T C W (.Subscript a (.Slice lo hi none p) pos) (.slc bl bh a' lo' hi') := by
  refine PE.imp (pe_slice (o_slc (T := T)) ha hl hh) fun σ H Q ⟨ρ, m, env, S, R, q⟩ => ?_
  unfold evalE at q
  refine seqE S R q fun x H1 ρ1 m1 d1 E1 S1 R1 r1 q1 => ?_
  refine ⟨ρ1, m1, env, S1, R1, q1.bind.imp (fun dl m2 ρ2 H2 E2 S2 q2 => ?_) fun _ _ _ _ _ _ _ z => z⟩
  split at q2
  · rename_i o e1
    refine ⟨o, e1, ρ2, m2, env, S2, R1.mono S1 E2, q2.bind.imp (fun dh m3 ρ3 H3 E3 S3 q3 => ?_) fun _ _ _ _ _ _ _ z => z⟩
    split at q3
    · rename_i u e2
      exact ⟨u, e2, ρ3, m3, d1, _, S3, (r1.mono S1 E2).mono S2 E3, q3⟩
    · exact (show False from q3).elim
  · exact (show False from q2).elim
end
end Dat

/-! Dat8 -/
set_option linter.all false
set_option maxRecDepth 100000
set_option maxHeartbeats 1000000
/-! Dat8: displays, calls. -/
namespace Dat
open PySem PySem.Spec L2 PyProof.Rows

section
variable {X : Cx} {T : List (Addr × Str)} {C : Ctl} {W : WX} {c : Ctx} {Pg : Prog} {lv : Nat}
abbrev OkA (X : Cx) (T : List (Addr × Str)) (C : Ctl) (W : WX) (e : List Expr) (ir : List IE) : Prop := PA X e (tA X.K T C W ir)
theorem ok_nil : OkA X T C W [] [] := by
  refine PA.imp pa_nil fun σ H Q ⟨ρ, m, env, S, R, q⟩ => ?_
  unfold evalEs at q
  exact q ρ H (Ext.refl _ _) S [] .nil
theorem ok_cons {e : Expr} {es : List Expr} {e' : IE} {es' : List IE} (p : plainE e = true) (h : OkE X T C W e e') (hs : OkA X T C W es es') : OkA X T C W (e :: es) (e' :: es') := by
  refine PA.imp (pa_cons h hs (noStar p _ _)) fun σ H Q ⟨ρ, m, env, S, R, q⟩ => ?_
  unfold evalEs at q
  refine seqE S R q fun x H1 ρ1 m1 d1 E1 S1 R1 r1 q1 => ?_
  refine seqA S1 R1 q1 fun xs H2 ρ2 m2 ds E2 S2 R2 r2 q2 => ?_
  exact q2 ρ2 H2 (Ext.refl _ _) S2 _ (.cons (r1.mono S1 E2) r2)
theorem ok_tup {es : List Expr} {es' : List IE} {k : Nat} {pos : Pos} (h : OkA X T C W es es') : OkE X T C W (.Tuple es k pos) (.tup es') := by
  refine PE.imp (pe_tup h) fun σ H Q ⟨ρ, m, env, S, R, q⟩ => ?_
  unfold evalE at q
  refine seqA S R q fun xs H2 ρ2 m2 ds E2 S2 R2 r2 q2 => ?_
  split at q2
  · rename_i hl
    rw [r2.length] at hl
    exact ⟨hl, fun p np => Then.aside S2 q2 np fun ρ' H' E e => .tup (.inl (.inl (by rw [e]; exact upd_same))) (r2.mono S2 E)⟩
  · exact (show False from q2).elim
theorem ok_lst {es : List Expr} {es' : List IE} {pos : Pos} (h : OkA X T C W es es') : OkE X T C W (.List es pos) (.lst es') := by
  refine PE.imp (pe_lst h) fun σ H Q ⟨ρ, m, env, S, R, q⟩ => ?_
  unfold evalE at q
  refine seqA S R q fun xs H2 ρ2 m2 ds E2 S2 R2 r2 q2 => ?_
  split at q2
  · rename_i hl
    rw [r2.length] at hl
    exact ⟨hl, fun p np => Then.alloc S2 q2 np r2⟩
  · exact (show False from q2).elim
/-- no star among them -/
def plainEs : List Expr → Bool
  | [] => true
  | e :: es => plainE e && plainEs es
theorem noStars {pos : Pos} {env : Env} : ∀ {es : List Expr}, plainEs es = true → (backTo pos (starEach es env)).any (·.1) = false
  | [], _ => rfl
  | e :: es, h => by
    have h2 : plainE e = true ∧ plainEs es = true := by simpa [plainEs] using h
    rw [noStar h2.1]
    have ih := noStars (pos := pos) (env := env) h2.2
    simp only [backTo, List.map_cons, List.any_cons, Bool.false_or] at ih ⊢
    exact ih
theorem pa_two {e : Expr} {es : List Expr} (h : plainEs (e :: es) = true) : plainE e = true ∧ plainEs es = true := by simpa [plainEs] using h
theorem sp_call {i : Nat} {K : PySem.W.Frag} {xs : List V} {H2 : Hp} {Q : VK} {E : XK} {ρ2 : List Addr} {m2 : Mem} {ds : List D} {ex : Str → Option D → Mem → List Addr → Hp → Prop}
    (S2 : Sto K T ρ2 H2 m2) (r2 : RelDs K ρ2 H2 ds xs) (q2 : Then K T ρ2 H2 (runF Pg lv i ds m2) (fun d _ ρ' H' => ∀ v, RelD K ρ' H' d v → Q v H') ex) (he : ∀ cc p m ρ' H', ex cc p m ρ' H' → ∀ dd, RelP K ρ' H' p dd → E (.ref (He.ga K cc)) dd H') : spF K T Pg lv i xs H2 Q E :=
  ⟨ρ2, m2, ds, S2, r2, q2.imp (fun _ _ _ _ _ _ z => z) fun cc p m ρ' H' _ _ z => he cc p m ρ' H' z⟩
theorem ok_call {f : Str} {e : Expr} {es : List Expr} {l : List IE} {i : Nat} {q : Str × List Str} {p pos : Pos} (G : Good c C Pg lv T X W) (hg : c.isGl f = true) (hi : c.fns[i]? = some q) (hq : q.1 = f) (pl : plainEs (e :: es) = true)
    (h : OkA X T C W (e :: es) l) : OkE X T C W (.Call (.Name f p) (e :: es) [] pos) (.call i l) := by
  obtain ⟨fa, fd, hm, hk, hb, F⟩ := (G.fns _ (Nat.le_refl _)).fn i q hi
  rw [hq] at hm
  refine PE.imp (pe_callS (E := WE W) F G.room (G.gl hg) hm hk hb (passAt G.tk) h (isGl_of hg).2.1 (noStar (pa_two pl).1 _ _) (noStars (pa_two pl).2)) fun σ H Q ⟨ρ, m, env, S, R, q⟩ => ?_
  unfold evalE at q
  refine seqA S R q fun xs H2 ρ2 m2 ds E2 S2 R2 r2 q2 => ?_
  rw [G.call] at q2
  show spF X.K T Pg lv i (xs) H2 Q (WE W σ)
  exact sp_call S2 r2 q2 fun _ _ _ _ _ z => z
/-- f() -/
theorem ok_call0 {f : Str} {i : Nat} {q : Str × List Str} {p pos : Pos} (G : Good c C Pg lv T X W) (hg : c.isGl f = true) (hi : c.fns[i]? = some q) (hq : q.1 = f) : OkE X T C W (.Call (.Name f p) [] [] pos) (.call i []) := by
  obtain ⟨fa, fd, hm, hk, hb, F⟩ := (G.fns _ (Nat.le_refl _)).fn i q hi
  rw [hq] at hm
  refine ⟨fun pins s σ H Q I ⟨ρ, m, env, S, R, z⟩ => ?_⟩
  unfold evalE at z
  have z2 : Then X.K T ρ H (runF Pg lv i [] m) (fun d _ ρ' H' => ∀ v, RelD X.K ρ' H' d v → Q v H') (exW X.K W σ) := by
    unfold evalEs at z
    rw [← G.call]
    exact z
  refine wpAny_Call_Name_kw (ld_glob I (G.gl hg) hm ?_ (isGl_of hg).2.1)
  exact PySem.W.callWith_K0 I.kIn hk (run_fnS (us := []) (E := WE W) F G.room hb (passAt G.tk σ) I .nil (sp_call S .nil z2 fun _ _ _ _ _ z => z))
theorem bltOf_cases {x : Str} {n : Nat} {b : Blt} (h : bltOf x n = some b) : (b = .abs ∧ x = "abs") ∨ (b = .len ∧ x = "len") ∨ (b = .int ∧ x = "int") ∨ (b = .str ∧ x = "str") ∨ (b = .list ∧ x = "list") ∨ (b = .tuple ∧ x = "tuple") ∨ (b = .min2 ∧ x = "min") ∨ (b = .max2 ∧ x = "max") := by
  unfold bltOf at h
  repeat' split at h
  all_goals first | (cases h; done) | skip
  all_goals
    rename_i hx
    obtain ⟨rfl, _⟩ := hx
    cases h
    simp
theorem ok_blt {f : Str} {e : Expr} {es : List Expr} {l : List IE} {b : Blt} {n : Nat} {p pos : Pos} (G : Good c C Pg lv T X W) (hg : c.isGl f = true) (hb : bltOf f n = some b) (pl : plainEs (e :: es) = true)
    (h : OkA X T C W (e :: es) l) : OkE X T C W (.Call (.Name f p) (e :: es) [] pos) (.blt b l) := by
  have g := G.gl hg
  obtain ⟨_, h2, h3⟩ := isGl_of hg
  have s1 := noStar (env := X.env) (es := es) (pa_two pl).1
  have s2 := noStars (pos := pos) (env := X.env) (pa_two pl).2
  have fin : ∀ {b : Blt} {σ : L2.St} {H : Hp} {Q : VK}, tE X.K T C W (.blt b l) σ H Q → tCB (rC X.K T (bltD b)) (tA X.K T C W l) σ H Q := fun {b σ H Q} ⟨ρ, m, env, S, R, q⟩ => by
    unfold evalE at q
    exact seqA S R q fun xs H2 ρ2 m2 ds E2 S2 R2 r2 q2 => ⟨ρ2, m2, ds, _, S2, r2, q2⟩
  rcases bltOf_cases hb with ⟨rfl, rfl⟩ | ⟨rfl, rfl⟩ | ⟨rfl, rfl⟩ | ⟨rfl, rfl⟩ | ⟨rfl, rfl⟩ | ⟨rfl, rfl⟩ | ⟨rfl, rfl⟩ | ⟨rfl, rfl⟩
  · exact PE.imp (pe_callB (c_abs (T := T)) g (G.blt _ (by decide +kernel)) (by decide +kernel) h h3 h2 s1 s2) fun _ _ _ q => fin q
  · exact PE.imp (pe_callB (c_len (T := T)) g (G.blt _ (by decide +kernel)) (by decide +kernel) h h3 h2 s1 s2) fun _ _ _ q => fin q
  · exact PE.imp (pe_callTy (c_int (T := T)) g (G.blt _ (by decide +kernel)) (by decide +kernel) h h3 h2 s1 s2) fun _ _ _ q => fin q
  · exact PE.imp (pe_callTy (c_str (T := T)) g (G.blt _ (by decide +kernel)) (by decide +kernel) h h3 h2 s1 s2) fun _ _ _ q => fin q
  · exact PE.imp (pe_callTy (c_list (T := T)) g (G.blt _ (by decide +kernel)) (by decide +kernel) h h3 h2 s1 s2) fun _ _ _ q => fin q
  · exact PE.imp (pe_callTy (c_tuple (T := T)) g (G.blt _ (by decide +kernel)) (by decide +kernel) h h3 h2 s1 s2) fun _ _ _ q => fin q
  · exact PE.imp (pe_callB (c_min2 (T := T) G.calm) g (G.blt _ (by decide +kernel)) (by decide +kernel) h h3 h2 s1 s2) fun _ _ _ q => fin q
  · exact PE.imp (pe_callB (c_max2 (T := T) G.calm) g (G.blt _ (by decide +kernel)) (by decide +kernel) h h3 h2 s1 s2) fun _ _ _ q => fin q
theorem isL_ty {K : PySem.W.Frag} {ρ : List Addr} {H : Hp} {m : Mem} {d : D} {x : V} (S : Sto K T ρ H m) (r : RelD K ρ H d x) (h : isL m d = true) : tyV K "list" x H := by
  cases r with
  | ref e2 =>
    unfold isL at h
    simp only at h
    split at h
    · rename_i l e
      obtain ⟨vs, h1, _⟩ := lst_at S e2 e
      exact .inl ⟨rfl, _, SqL.of h1⟩
    · cases h
  | _ => cases h
theorem ok_mth0 {o : Expr} {f : Str} {o' : IE} {k : Mth} {ap pos : Pos} (hk : mthOf f 0 = some k) (hline : (ap.endLine == pos.line) = true) (nb : attributeBase o f X.env (eval o X.env) = eval o X.env) (h : OkE X T C W o o') : OkE X T C W (.Call (.Attribute o f ap) [] [] pos) (.mth k o' []) := by
  have hp : k = .pop ∧ f = "pop" := by
    unfold mthOf at hk
    repeat' split at hk
    all_goals first | (cases hk; done) | skip
    all_goals
      rename_i hx
      cases hk
      first | exact ⟨rfl, hx.1⟩ | exact absurd hx.2 (by decide)
  obtain ⟨rfl, rfl⟩ := hp
  refine PE.imp (pe_bm0 PySem.F.plainAttrs_list PySem.F.slot_list_pop PySem.F.type_list_pop (m_pop (T := T)) h nb hline) fun σ H Q ⟨ρ, m, env, S, R, q⟩ => ?_
  unfold evalE at q
  refine seqE S R q fun x H1 ρ1 m1 d1 E1 S1 R1 r1 q1 => ?_
  split at q1
  case isFalse => exact (show False from q1).elim
  rename_i hl
  have q2 : Then X.K T ρ1 H1 (mthD .pop d1 [] m1) (fun d _ ρ' H' => ∀ v, RelD X.K ρ' H' d v → Q v H') (exW X.K W σ) := by
    unfold evalEs at q1
    exact q1
  exact ⟨isL_ty S1 r1 hl, ρ1, m1, d1, [], _, S1, r1, .nil, q2⟩
theorem ok_mth2 {o e e2 : Expr} {f : Str} {o' : IE} {l' : List IE} {k : Mth} {ap pos : Pos} (hk : mthOf f 2 = some k) (hline : (ap.endLine == pos.line) = true) (nb : attributeBase o f X.env (eval o X.env) = eval o X.env) (pl : plainE e = true) (pl2 : plainE e2 = true) (h : OkE X T C W o o') (ha : OkA X T C W [e, e2] l') : OkE X T C W (.Call (.Attribute o f ap) [e, e2] [] pos) (.mth k o' l') := by
  have hp : k = .insert ∧ f = "insert" := by
    unfold mthOf at hk
    repeat' split at hk
    all_goals first | (cases hk; done) | skip
    all_goals
      rename_i hx
      cases hk
      first | exact ⟨rfl, hx.1⟩ | exact absurd hx.2 (by decide)
  have few : ((backTo pos (starEach [e, e2] X.env)).all (fun x => !x.1) && (backToKw pos (keywordEach [] X.env)).all (fun x => x.1.isSome)
      && decide (([e, e2] : List Expr).length + ([] : List Keyword).length + (if ([] : List Keyword).isEmpty then 0 else 1) < 30)) = true := by
    rw [noStar pl, noStar pl2] <;> rfl
  have s2 : (backTo pos (starEach [e2] X.env)).any (·.1) = false := noStars (es := [e2]) (by simp [plainEs, pl2])
  have fin : ∀ {k : Mth} {σ : L2.St} {H : Hp} {Q : VK}, tE X.K T C W (.mth k o' l') σ H Q → tBM X.K "list" (rM X.K T (mthD k)) (tE X.K T C W o') (tA X.K T C W l') σ H Q := fun {k σ H Q} ⟨ρ, m, env, S, R, q⟩ => by
    unfold evalE at q
    refine seqE S R q fun x H1 ρ1 m1 d1 E1 S1 R1 r1 q1 => ?_
    split at q1
    · rename_i hl
      exact ⟨isL_ty S1 r1 hl, seqA S1 R1 q1 fun xs H2 ρ2 m2 ds E2 S2 R2 r2 q2 => ⟨ρ2, m2, d1, ds, _, S2, r1.mono S1 E2, r2, q2⟩⟩
    · exact (show False from q1).elim
  obtain ⟨rfl, rfl⟩ := hp
  exact PE.imp (pe_bm PySem.F.plainAttrs_list PySem.F.slot_list_insert PySem.F.type_list_insert (m_insert (T := T)) h ha nb few hline (noStar pl _ _) s2) fun _ _ _ q => fin q
theorem ok_mth1 {o e : Expr} {f : Str} {o' : IE} {l' : List IE} {k : Mth} {ap pos : Pos} (hk : mthOf f 1 = some k) (hline : (ap.endLine == pos.line) = true) (nb : attributeBase o f X.env (eval o X.env) = eval o X.env) (pl : plainE e = true) (h : OkE X T C W o o') (ha : OkA X T C W [e] l') : OkE X T C W (.Call (.Attribute o f ap) [e] [] pos) (.mth k o' l') := by
  have hp : (k = .append ∧ f = "append") ∨ (k = .popAt ∧ f = "pop") := by
    unfold mthOf at hk
    repeat' split at hk
    all_goals first | (cases hk; done) | skip
    all_goals
      rename_i hx
      cases hk
      first | exact .inl ⟨rfl, hx.1⟩ | exact .inr ⟨rfl, hx.1⟩ | exact absurd hx.2 (by decide)
  have few : ((backTo pos (starEach [e] X.env)).all (fun x => !x.1) && (backToKw pos (keywordEach [] X.env)).all (fun x => x.1.isSome)
      && decide (([e] : List Expr).length + ([] : List Keyword).length + (if ([] : List Keyword).isEmpty then 0 else 1) < 30)) = true := by
    rw [noStar pl] <;> rfl
  have s2 : (backTo pos (starEach [] X.env)).any (·.1) = false := rfl
  have fin : ∀ {k : Mth} {σ : L2.St} {H : Hp} {Q : VK}, tE X.K T C W (.mth k o' l') σ H Q → tBM X.K "list" (rM X.K T (mthD k)) (tE X.K T C W o') (tA X.K T C W l') σ H Q := fun {k σ H Q} ⟨ρ, m, env, S, R, q⟩ => by
    unfold evalE at q
    refine seqE S R q fun x H1 ρ1 m1 d1 E1 S1 R1 r1 q1 => ?_
    split at q1
    · rename_i hl
      exact ⟨isL_ty S1 r1 hl, seqA S1 R1 q1 fun xs H2 ρ2 m2 ds E2 S2 R2 r2 q2 => ⟨ρ2, m2, d1, ds, _, S2, r1.mono S1 E2, r2, q2⟩⟩
    · exact (show False from q1).elim
  rcases hp with ⟨rfl, rfl⟩ | ⟨rfl, rfl⟩
  · exact PE.imp (pe_bm PySem.F.plainAttrs_list PySem.F.slot_list_append PySem.F.type_list_append (m_append (T := T)) h ha nb few hline (noStar pl _ _) s2) fun _ _ _ q => fin q
  · exact PE.imp (pe_bm PySem.F.plainAttrs_list PySem.F.slot_list_pop PySem.F.type_list_pop (m_popAt (T := T)) h ha nb few hline (noStar pl _ _) s2) fun _ _ _ q => fin q
end
end Dat

/-! DatEn -/
set_option linter.all false
set_option maxRecDepth 100000
/-! DatEn: enumerate(a tuple). -/
namespace PySem
open Sem (wp)
open AutoSeq1 (wpAny_loadPart')
set_option maxHeartbeats 2000000 in
theorem meets_enumerate_newT (l : Addr) (items : Array Value) :
    Meets (Builtin.«enumerate.__new__» ⟨[.type "enumerate", .ref l], []⟩) (fun _ R s => s.heap.IsTuple l items ∧
      R (.ok (.ret (.ref (s.heap.push { cls := .type "tuple_iterator", data := .fields #[.ref l, .int 0 0] }).objs.size)))
        { s with heap := (s.heap.push { cls := .type "tuple_iterator", data := .fields #[.ref l, .int 0 0] }).push { cls := .type "enumerate", data := .fields #[.none, .bool false, .ref s.heap.objs.size, rawInt 0, .none, .none] } }) :=
  .of_wp fun prog w A R s h => by
    obtain ⟨hp, g, d, tk, os⟩ := s; obtain ⟨hl, h⟩ := h
    have hsub := sub_enumerate
    have hL : Heap.IsTuple (Shared.heap ⟨hp, g, d, tk, os⟩) l items := hl
    have q1 : ∀ {A' : Around} {E : Value → Shared → Prop} {Q : Value → Shared → Prop}, Q (.ref hp.objs.size) ⟨hp.push { cls := .type "tuple_iterator", data := .fields #[.ref l, .int 0 0] }, g, d, tk, os⟩ → wpAny (model prog w) A' (pyIter (.ref l)) Q E ⟨hp, g, d, tk, os⟩ :=
      fun q => wpAny_pyIter_tuple hL q
    wp_walk using q1
    refine wpAny_stack_any fun st => wpAny_pure ?_
    split
    · rename_i c _ _ _ _ _
      cases (c == Value.type "enumerate")
      · wp_walk using q1
        exact ⟨_, rfl, h⟩
      · wp_walk using q1
        exact ⟨_, rfl, h⟩
    · wp_walk using q1
      exact ⟨_, rfl, h⟩
section
variable {prog : Program} {w : World} {A : Around} {E : Value → Shared → Prop} {s : Shared}
theorem call_enumerate_tup {l : Addr} {items : Array Value} {Q : Value → Shared → Prop} (hL : s.heap.IsTuple l items)
    (h : ∀ h', IsEnum h' (s.heap.objs.size + 1) s.heap.objs.size 0 .none → h'.IsTupleIter s.heap.objs.size l 0 → h'.objs.size = s.heap.objs.size + 2 →
      (∀ b o, s.heap.get? b = some o → h'.get? b = some o) → Q (.ref (s.heap.objs.size + 1)) { s with heap := h' }) :
    wpAny (model prog w) A (call (.type "enumerate") [.ref l]) Q E s := by
  refine callType_new F.called_enumerate (by decide) (F.typeCall_enumerate_1 _) (F.newCall_enumerate_1 _) (fun obj => F.args_object_init_2 obj _) F.entry_enumerate_new
    (meets_enumerate_newT l items) ⟨hL, ?_⟩
  have hz : (s.heap.push { cls := .type "tuple_iterator", data := .fields #[.ref l, .int 0 0] }).objs.size = s.heap.objs.size + 1 := Heap.size_push ..
  show _ ∧ _
  rw [hz]
  have he : IsEnum ((s.heap.push { cls := .type "tuple_iterator", data := .fields #[.ref l, .int 0 0] }).push
      { cls := .type "enumerate", data := .fields #[.none, .bool false, .ref s.heap.objs.size, rawInt 0, .none, .none] }) (s.heap.objs.size + 1) s.heap.objs.size 0 .none := by
    have := Heap.get?_push_size (s.heap.push { cls := .type "tuple_iterator", data := .fields #[.ref l, .int 0 0] })
      (o := { cls := .type "enumerate", data := .fields #[.none, .bool false, .ref s.heap.objs.size, rawInt 0, .none, .none] }) rfl
    rw [hz] at this; exact this
  refine ⟨⟨_, he, rfl⟩, h _ he ⟨_, Heap.get?_push_of_some _ (Heap.get?_push_size _ rfl), rfl, rfl⟩ (by rw [Heap.size_push, hz]) fun b o x => Heap.get?_push_of_some _ (Heap.get?_push_of_some _ x)⟩
theorem pyNext_enumT_end {e it l : Addr} {i : Nat} {items : Array Value} {old : Value} {Q : Option Value → Shared → Prop} (hh : A.handled = none)
    (he : IsEnum s.heap e it i old) (hit : s.heap.IsTupleIter it l i) (hl : s.heap.IsTuple l items) (hx : items[i]? = none)
    (hQ : ∀ h', Heap.ExtBut it s.heap h' → Q none { s with heap := h' }) : wpAny (model prog w) A (pyNext (.ref e)) Q E s := by
  have hT : s.TypeIs (.ref e) "enumerate" := ⟨_, he, rfl⟩
  unfold pyNext
  refine wpAny_bind (wpAny_attempt (wpAny_callSpecial?_slot (name := Str.ofString "__next__") hT F.slot_enumerate_next
    (wpAny_call_entry F.slot_enumerate_next hT F.entry_enumerate_next ?_ (F.args_enumerate_next_1 _))))
  show wpAny _ _ (field (.ref e) 2 >>= _) _ _ _
  refine wpAny_bind (wpAny_field he rfl (x := .ref it) rfl ?_)
  refine wpAny_bind (wpAny_nextOf_tuple_end hh hit hl hx fun h' x he' hx' => ?_)
  obtain ⟨o, ho, hc⟩ := hx'
  refine wpAny_bind (wpAny_isInstance (T := "StopIteration") (b := true) ⟨o, ho, hc⟩ isSubtype_stop ?_)
  exact wpAny_pure (hQ _ he')
end
end PySem
namespace Dat
open PySem PySem.Spec PyProof.Rows L2
/-- the tuple at a, each item in a new pair -/
def IteT (K : PySem.W.Frag) (a : Addr) : It :=
  ⟨fun i H => ∃ (xs : List V) (x : V), SqT K H a xs ∧ xs[i]? = some x, fun i H v H' => ∃ T x, v = .ref T ∧ H T = none ∧ H' = upd H T (.tup [.int (i : Nat), x]) ∧ ∀ xs, SqT K H a xs → xs[i]? = some x, fun i H => ∃ xs : List V, SqT K H a xs ∧ xs.length ≤ i⟩
theorem turn_enumT {P : Program} {w : World} {K : PySem.W.Frag} {elts : List Expr} {kk : Nat} {tpos : Pos} (a e it : Addr) (hae : a ≠ e) (hai : a ≠ it) :
    Turn P w K (.Tuple elts kk tpos) (IteT K a) [e, it] e (fun i h => (∃ old, IsEnum h e it ((i : Nat) : Int) old) ∧ h.IsTupleIter it a i ∧ e ≠ it) where
  mem := by simp
  obj := fun i h st b hb => by
    obtain ⟨⟨old, he⟩, ⟨o, ho, hc, hd⟩, _⟩ := st
    have e' : b = e ∨ b = it := by simpa using hb
    rcases e' with z | z
    · rw [z]; exact ⟨_, he, fun v q => nomatch q⟩
    · rw [z]; exact ⟨o, ho, fun v q => by rw [hd] at q; cases q⟩
  keep := fun i h h' st k => let ⟨⟨old, he⟩, hi, hne⟩ := st; ⟨⟨old, k e (by simp) _ he⟩, hi.at fun o q => k it (by simp) o q, hne⟩
  item := by
    intro X hP hw hK hc i pins s σ H E I hf st hg
    subst hP hw hK
    obtain ⟨⟨old, he⟩, hit, hne⟩ := st
    obtain ⟨xs, x, hq, hx⟩ := hg
    obtain ⟨its, rv, p, hz⟩ := I.tuple hq
    obtain ⟨u, hu, ru⟩ := rv.get hx
    have hel : e < s.heap.objs.size := Heap.lt_size he
    have hil : it < s.heap.objs.size := by obtain ⟨_, q, _⟩ := hit; exact Heap.lt_size q
    have hlt : i < its.toArray.size := by
      have := (List.getElem?_eq_some_iff.mp hu).1
      simpa using this
    refine wpAny_pyNext_enum_itemD (Draws.tuple (prog := X.prog) (w := X.w) (A := X.A.in1) (I.ok.hd hc) it a hai its.toArray) he ⟨hit, p⟩ hlt hne (fun hm => ?_) fun x' h' tk hx' ho hit' hT hsz hk => ?_
    · rcases List.mem_cons.mp hm with q | hm
      · exact hne q
      · exact hae (List.mem_singleton.mp hm).symm
    have ex : x' = u := by
      have : its.toArray[i]? = some u := by simpa using hu
      rw [this] at hx'
      cases hx'
      rfl
    subst ex
    refine ⟨_, rfl, wpAny_letOwnedTupleGo_enum (s := { s with heap := h', toks := tk + 1 }) ho fun h'' he' sb => ?_⟩
    have hT2 : h''.get? s.heap.objs.size = some { cls := .type "tuple", data := .seq #[.int i tk, x'] } := (sb.2 _ (Nat.ne_of_gt hel)).trans hT
    have new : ObjOk X.prog X.w (upd H s.heap.objs.size (.tup [.int (i : Nat), x])) h'' s.heap.objs.size (.tup [.int (i : Nat), x]) :=
      ⟨by show 2 ≤ sizeLine; decide, [.int i tk, x'], .cons ⟨_, rfl⟩ (.cons ru .nil), ⟨_, hT2, rfl, _, rfl⟩⟩
    have I1 : L2.Inv X pins σ (upd H s.heap.objs.size (.tup [.int (i : Nat), x])) { s with heap := h'', toks := tk + 1 } :=
      I.turnedNew (ch := [e, it]) (fun b ob hb q => (sb.2 b (fun z => hb (by simp [z]))).trans (hk b ob (fun z => hb (by simp [z])) (fun z => hb (by simp [z])) q)) hf (Nat.le_refl _) new
    refine ⟨.ref s.heap.objs.size, _, I1, rfl, ⟨_, x, rfl, I.hok.fresh (Nat.le_refl _), rfl, fun ys hy => by rw [I.tuple_inj hy hq]; exact hx⟩, ⟨⟨x', ?_⟩, hit'.1.at fun o q => (sb.2 it (Ne.symm hne)).trans q, hne⟩, fun b hb => ?_⟩
    · have e1 : ((i + 1 : Nat) : Int) = (i : Int) + 1 := by omega
      rw [e1]; exact he'
    · have hb' : b < s.heap.objs.size := by
        have e' : b = e ∨ b = it := by simpa using hb
        rcases e' with z | z
        · rw [z]; exact hel
        · rw [z]; exact hil
      rw [upd_ne (Nat.ne_of_lt hb')]
      exact (hf b hb).1
  done := by
    intro X hP hw hK hc i pins s σ H E I hf st hg
    subst hP hw hK
    obtain ⟨⟨old, he⟩, hit, hne⟩ := st
    obtain ⟨xs, hq, hx⟩ := hg
    obtain ⟨its, rv, p, hz⟩ := I.tuple hq
    obtain ⟨f0, f1, f2, f3, f4, f5⟩ := hf it (by simp)
    have hl := rv.length
    exact pyNext_enumT_end (I.ok.hd hc) he hit p (by simp; omega) fun h' eb => ⟨rfl, I.turned (t' := s.toks) (fun b o hb q => eb b o hb q) f0 f1 f3 f4 f5⟩
  self := fun A i s Q E st h => let ⟨⟨_, he⟩, _⟩ := st; wpAny_pyIter_enum he h
/-- enumerate(a list or a tuple) -/
def iEnumA (K : PySem.W.Frag) (ta : TA) : TI := fun σ H R => ta σ H fun vs H1 => ∃ a xs, vs = [.ref a] ∧ ((SqL K H1 a xs ∧ R (Ite K a) H1) ∨ (SqT K H1 a xs ∧ R (IteT K a) H1))
theorem pi_enumA {X : Cx} {e : Expr} {ta : TA} {p pos tpos : Pos} {elts : List Expr} {kk : Nat} (hg : Gl X "enumerate") (hm : X.mg "enumerate" = none) (ha : PA X [e] ta) (hs : starEach [e] X.env = [(false, eval e X.env)] := by rfl) :
    PI X (.Tuple elts kk tpos) (.Call (.Name "enumerate" p) [e] [] pos) (iEnumA X.K ta) := by
  refine ⟨fun pins s σ H R I h => ?_⟩
  refine Call_ (ld_blt I hg hm boot_enumerate (PyProof.Rows.callWith_type1 (thn (ha.run pos pins s σ H _ I h) fun us s1 ⟨vs, H1, I1, r1, q1⟩ => ?_) hs rfl))
  obtain ⟨a, xs, ex, q1⟩ := q1
  subst ex
  cases r1 with
  | cons r rr =>
    cases rr
    cases r
    have fre : ∀ b, b ∈ [s1.heap.objs.size + 1, s1.heap.objs.size] → FpOk X pins H1 b := fun b hb => by
      have e' : b = s1.heap.objs.size + 1 ∨ b = s1.heap.objs.size := by simpa using hb
      have hle : s1.heap.objs.size ≤ b := by
        rcases e' with z | z
        · rw [z]; exact Nat.le_add_right _ _
        · rw [z]; exact Nat.le_refl _
      exact I1.fpOk hle (I1.hok.fresh hle)
    rcases q1 with ⟨hq, q⟩ | ⟨hq, q⟩
    · obtain ⟨its, rv, p', hz⟩ := I1.list hq
      refine call_enumerate_list p'.isList fun h' he hit hsz hk => wpAny_pyIter_enum he ?_
      have I2 : L2.Inv X pins σ H1 { s1 with heap := h' } := I1.kept (t' := s1.toks) hk
      exact ⟨s1.heap.objs.size + 1, [s1.heap.objs.size + 1, s1.heap.objs.size], _, _, H1, rfl, I2, turn_enum a (s1.heap.objs.size + 1) s1.heap.objs.size, ⟨⟨.none, he⟩, hit, Nat.succ_ne_self _⟩, fre, q⟩
    · obtain ⟨its, rv, p', hz⟩ := I1.tuple hq
      obtain ⟨o1, ho1, _⟩ := id p'
      have hlt := Heap.lt_size ho1
      refine call_enumerate_tup (show s1.heap.IsTuple a its.toArray from p') fun h' he hit hsz hk => wpAny_pyIter_enum he ?_
      have I2 : L2.Inv X pins σ H1 { s1 with heap := h' } := I1.kept (t' := s1.toks) hk
      exact ⟨s1.heap.objs.size + 1, [s1.heap.objs.size + 1, s1.heap.objs.size], _, _, H1, rfl, I2, turn_enumT a (s1.heap.objs.size + 1) s1.heap.objs.size (Nat.ne_of_lt (Nat.lt_succ_of_lt hlt)) (Nat.ne_of_lt hlt), ⟨⟨.none, he⟩, hit, Nat.succ_ne_self _⟩, fre, q⟩
end Dat

/-! DatRev -/
set_option linter.all false
set_option maxRecDepth 100000
set_option maxHeartbeats 4000000
/-! DatRev: list(reversed(x)), x a list or a tuple. -/
namespace RT
open PySem PySem.Spec PyProof.Rows L2
theorem nolen_rt : typeLookup (.type "reversed") "__len__" = pure none := by rw [typeLookup_type, builtinLookup_eq_fast]; kernel_rfl
theorem hint_rt : typeLookup (.type "reversed") "__length_hint__" = pure (some (.builtin "reversed.__length_hint__")) := by rw [typeLookup_type, builtinLookup_eq_fast]; kernel_rfl
theorem Walks.rt {prog : Program} {w : World} {A : Around} (hh : A.handled = none) (I t : Addr) (hne : t ≠ I) (items : Array Value) (hsz : items.size ≤ sizeLine) :
    Walks prog w A I [I, t] [I] items.size (fun i v => items[items.size - 1 - i]? = some v) (fun i h => i ≤ items.size ∧ IsRt h I t ((items.size : Int) - 1 - (i : Int)) ∧ IsTup h t items) where
  sub := fun b hb => by simp at hb; simp [hb]
  frame := fun _ _ _ x hk => ⟨x.1, x.2.1.at fun o e => hk I (by simp) o e, (let ⟨o, e, r⟩ := x.2.2; ⟨o, hk t (by simp) o e, r⟩)⟩
  item := fun i s Q E hi x hQ => by
    have e : (items.size : Int) - 1 - (i : Int) = ((items.size - 1 - i : Nat) : Int) := by omega
    have hit := x.2.1
    rw [e] at hit
    have hx : items[items.size - 1 - i]? = some (items[items.size - 1 - i]'(by omega)) := Array.getElem?_eq_getElem (by omega)
    have e2 : ((items.size - 1 - i : Nat) : Int) - 1 = (items.size : Int) - 1 - ((i + 1 : Nat) : Int) := by omega
    refine next_rt_item hit x.2.2 hx hsz fun h' hit' hs' => ?_
    rw [e2] at hit'
    exact hQ _ h' (s.toks + 1) hx ⟨hi, hit', (let ⟨o, eo, r⟩ := x.2.2; ⟨o, (hs'.2 t hne).trans eo, r⟩)⟩ fun b o hb eo => hs'.extBut b o (fun h => hb (by simp [h])) eo
  done := fun s Q E x hQ => by
    have e : (items.size : Int) - 1 - (items.size : Int) = -1 := by omega
    have hit := x.2.1
    rw [e] at hit
    exact next_rt_end hh hit fun h' he' => hQ h' s.toks fun b o hb eo => he' b o (fun h => hb (by simp [h])) eo
  self := fun _ _ _ _ x hQ => iter_rt x.2.1 hQ
theorem asI (n : Int) (u : Tok) : asInt? (.int n u) = pure (some n) := rfl
theorem slot_rt_hint : Slot "reversed" "__length_hint__" "reversed.__length_hint__" :=
  .of (owner := "reversed") (n := "__length_hint__") (by rw [typeLookup_type, builtinLookup_eq_fast]; kernel_rfl) (by decide +kernel) (by decide +kernel) (by decide +kernel)
    (by first | exact .inl (by decide +kernel) | exact .inr (by decide +kernel)) (by rw [isSubtype_type]; kernel_rfl)
theorem entry_rt_hint : entryFor table "reversed.__length_hint__" = some Builtin.«reversed.__length_hint__» := entryFor_of_tree (by kernel_rfl)
theorem args_rt_hint (a : Value) : argsOk "reversed.__length_hint__" ⟨[a], []⟩ := by
  unfold argsOk; rw [signature?_of (id := "reversed.__length_hint__") (n := "__length_hint__".toList.reverse) (o := ['d', 'e', 's', 'r', 'e', 'v', 'e', 'r']) (by kernel_rfl) owner_rt]; kernel_rfl
theorem call_hint {prog : Program} {w : World} {A : Around} {E : Value → Shared → Prop} {s : Shared} {it t : Addr} {items : Array Value} {Q : Value → Shared → Prop} (hit : IsRt s.heap it t ((items.size : Int) - 1)) (ht : IsTup s.heap t items) (hsz : items.size ≤ sizeLine)
    (hQ : ∀ tk u, s.toks ≤ tk → Q (.int items.size u) { s with toks := tk }) : wpAny (model prog w) A (call (.builtin "reversed.__length_hint__") [.ref it]) Q E s := by
  obtain ⟨o, ho, hc, hd⟩ := id hit
  have hsz2 := hsz
  rw [sizeLine_eq] at hsz2
  refine wpAny_call_entry slot_rt_hint hit.typeIs entry_rt_hint ?_ (args_rt_hint _)
  unfold Builtin.«reversed.__length_hint__»
  refine wpAny_bind (wpAny_of_eq (a := Value.ref it) rfl ?_)
  try dsimp only
  refine wpAny_bind (wpAny_field ho hd (x := .ref t) rfl ?_)
  rw [if_neg (show ¬ ((Value.ref t == Value.none) = true) from Bool.false_ne_true)]
  refine wpAny_bind (PyProof.Rows.len_tuple ht (by omega) ?_)
  refine wpAny_bind (wpAny_of_eq (a := some (items.size : Int)) rfl ?_)
  try dsimp only
  refine wpAny_bind (wpAny_field (s := { s with toks := s.toks + 1 + 1 }) ho hd (x := rawInt ((items.size : Int) - 1)) rfl ?_)
  try dsimp only
  show wpAny _ _ (if (items.size : Int) < (items.size : Int) - 1 + 1 then _ else _) _ _ _
  rw [if_neg (by omega)]
  have e : (items.size : Int) - 1 + 1 = items.size := by omega
  rw [e]
  unfold retInt
  exact wpAny_bind (wpAny_mkInt (wpAny_pure ⟨_, rfl, hQ _ _ (by show s.toks ≤ s.toks + 1 + 1 + 1; omega)⟩))
section
variable {prog : Program} {w : World} {A : Around} {s : Shared} {R : Result → Shared → Prop}
variable {I : Addr} {fp wr : List Addr} {G : Array GenState → Array GenState → Prop} {n : Nat} {P : Nat → Value → Prop} {St : Nat → Shared → Prop}
theorem extend_tail (W : WalksS prog w A.in1 I fp wr G n P St) (S : Addr) (res : Value) (c₀ : Nat) (b : Bool) (hst : St 0 s) (hSf : S ∉ fp)
    (hS : s.heap.get? S = some { cls := .type "list", data := .seq #[] c₀ })
    (hR : ∀ s' acc' c', Moved (S :: wr) G s s' → s'.heap.get? S = some { cls := .type "list", dict := none, data := .seq acc' c', slots := #[] } → ItemsOf P acc' n → R (.ok (.ret res)) s') (hn : n ≤ sizeLine) :
    wpAny (model prog w) A.in1 (if b = true then (do rule "list.extend.makes-room"; Builtin.List.listTouch (.ref S); again (.builtin "list.extend.loop" ⟨[.ref S, .ref I, res], []⟩)) else again (.builtin "list.extend.loop" ⟨[.ref S, .ref I, res], []⟩))
      (fun fin s' => match fin with | .done f => R (.ok f) s' | .again c' => c'.quiet = true ∧ codeAny (model prog w) A c' R s') (fun e s' => R (.error e) s') s := by
  cases b with
  | true =>
    rw [if_pos rfl]
    show wpAny _ A.in1 (rule "list.extend.makes-room" >>= fun _ => Builtin.List.listTouch (.ref S) >>= fun _ =>
      again (.builtin "list.extend.loop" ⟨[.ref S, .ref I, res], []⟩)) _ _ _
    refine wpAny_bind (wpAny_rule ?_)
    refine wpAny_bind ?_
    show wpAny _ A.in1 (updateSeq S (·.push .none) >>= fun _ => updateSeq S (·.pop)) _ _ _
    refine wpAny_bind (wpAny_updateSeq hS rfl ?_)
    have hS₂ := Heap.get?_update_self (Obj.mapSeq (·.push Value.none)) hS rfl
    refine wpAny_updateSeq (hz := by seq_fits) hS₂ rfl ?_
    have hS₃ := Heap.get?_update_self (Obj.mapSeq (·.pop)) hS₂ rfl
    have oth : ∀ b o, b ≠ S → s.heap.get? b = some o → ((s.heap.update S (Obj.mapSeq (·.push Value.none))).update S (Obj.mapSeq (·.pop))).get? b = some o :=
      fun b o hb e => (Heap.get?_update_other _ _ (Ne.symm hb)).trans ((Heap.get?_update_other _ _ (Ne.symm hb)).trans e)
    refine wpAny_pure ⟨plainId_quiet F.plain_extend_loop _, codeAny_extend_loopS W hn _ hSf _ n 0 _ _ _ rfl (Nat.zero_le _)
      (W.frame 0 s _ s.toks hst (Nat.le_refl _) fun b hb o e => oth b o (fun h => hSf (h ▸ hb)) e) hS₃ (ItemsOf.nil P) fun s' acc' c' hm hS' hacc => ?_⟩
    exact hR s' acc' c' (Moved.trans W.gtrans ((Moved.refl W.grefl).then_heap (Nat.le_refl _) fun b o hb e => oth b o (fun h => hb (h ▸ List.mem_cons_self)) e) hm) hS' hacc
  | false =>
    rw [if_neg (by decide)]
    refine wpAny_pure ⟨plainId_quiet F.plain_extend_loop _, codeAny_extend_loopS W hn _ hSf _ n 0 _ _ _ rfl (Nat.zero_le _) hst hS (ItemsOf.nil P) fun s' acc' c' hm hS' hacc => ?_⟩
    exact hR s' acc' c' hm hS' hacc
theorem extend_rt (W : WalksS prog w A.in1 I fp wr G n P St) (hT : ∀ i s, St i s → s.TypeIs (.ref I) "reversed") {t : Addr} {items : Array Value} (hz0 : items.size ≤ sizeLine) (hs0 : ∀ s, St 0 s → IsRt s.heap I t ((items.size : Int) - 1) ∧ IsTup s.heap t items) (S : Addr) (res : Value) (c₀ : Nat) (hst : St 0 s) (hSf : S ∉ fp) (hI : I ∈ fp)
    (hS : s.heap.get? S = some { cls := .type "list", data := .seq #[] c₀ })
    (hR : ∀ s' acc' c', Moved (S :: wr) G s s' → s'.heap.get? S = some { cls := .type "list", dict := none, data := .seq acc' c', slots := #[] } → ItemsOf P acc' n → R (.ok (.ret res)) s') (hn : n ≤ sizeLine) :
    wpAny (model prog w) A.in1 (Builtin.List.listExtendWith (.ref S) (.ref I) res)
      (fun fin s' => match fin with | .done f => R (.ok f) s' | .again c' => c'.quiet = true ∧ codeAny (model prog w) A c' R s') (fun e s' => R (.error e) s') s := by
  have hSI : S ≠ I := fun e => hSf (e ▸ hI)
  unfold Builtin.List.listExtendWith
  refine wpAny_bind (wpAny_typeOf (hT 0 _ hst) ?_)
  have h1 : Builtin.List.listSameRef (.ref S) (.ref I) = false := by simp [Builtin.List.listSameRef, hSI]
  have h2 : (Value.type "reversed" == Value.type "list") = false := by decide
  have h3 : (Value.type "reversed" == Value.type "tuple") = false := by decide
  simp only [h1, h2, h3, Bool.or_false, Bool.false_eq_true, if_false]
  refine wpAny_bind (W.self 0 _ _ _ hst ?_)
  refine wpAny_bind (wpAny_holding ?_)
  unfold Builtin.List.listLengthHint
  refine wpAny_bind (wpAny_specialOf (hT 0 _ hst) nolen_rt ?_)
  show wpAny _ A.in1 (specialOf (Value.ref I) (Str.ofString "__length_hint__") >>= _) _ _ _
  refine wpAny_bind (wpAny_specialOf (hT 0 _ hst) hint_rt ?_)
  generalize hid : ("reversed.__length_hint__" : String) = id0
  wp_delta
  rw [show splitId id0 = some ("reversed", "__length_hint__") from by subst hid; decide +kernel]
  subst hid
  refine wpAny_bind (wpAny_isInstance (b := true) (hT 0 _ hst) (by rw [isSubtype_type]; kernel_rfl) ?_)
  rw [if_neg (by decide)]
  dsimp only
  rw [if_neg (by decide +kernel)]
  refine wpAny_bind (wpAny_rule ?_)
  refine wpAny_bind (wpAny_of_eq (slot_rt_hint.bind _) ?_)
  try dsimp only
  obtain ⟨r1, r2⟩ := hs0 _ hst
  refine wpAny_bind (wpAny_attempt (call_hint r1 r2 hz0 fun tk u htk => ?_))
  try dsimp only
  have hsz2 := hz0
  rw [sizeLine_eq] at hsz2
  rw [asI, pure_bind]
  dsimp only
  have f1 : Builtin.List.listFitsIndex (items.size : Int) = true := by
    unfold Builtin.List.listFitsIndex
    simp only [Bool.and_eq_true, decide_eq_true_eq]
    omega
  rw [if_neg (by rw [f1]; decide), if_neg (by omega)]
  have f2 : Builtin.List.listTooLong (items.size : Int).toNat = false := by
    unfold Builtin.List.listTooLong
    simp only [Int.toNat_natCast, decide_eq_false_iff_not]
    omega
  rw [if_neg (by rw [f2]; decide)]
  refine wpAny_pure ?_
  have hst1 : St 0 { s with toks := tk } := W.frame 0 s s.heap tk hst htk fun _ _ _ e => e
  clear f1 f2 hsz2
  refine extend_tail W S res c₀ _ hst1 hSf hS (fun s' acc' c' m hS' hacc => hR s' acc' c' ⟨m.heap, m.gens, m.drawn, m.os, Nat.le_trans htk m.toks⟩ hS' hacc) hn
theorem list_init_rt (W : WalksS prog w A.in1 I fp wr G n P St) (hT : ∀ i s, St i s → s.TypeIs (.ref I) "reversed") {t : Addr} {items : Array Value} (hz0 : items.size ≤ sizeLine) (hs0 : ∀ s, St 0 s → IsRt s.heap I t ((items.size : Int) - 1) ∧ IsTup s.heap t items) (S : Addr) (hst : St 0 s) (hSf : S ∉ fp) (hI : I ∈ fp)
    (hS : s.heap.get? S = some { cls := .type "list", data := .seq #[] })
    (hR : ∀ s' acc' c', Moved (S :: wr) G s s' → s'.heap.get? S = some { cls := .type "list", dict := none, data := .seq acc' c', slots := #[] } → ItemsOf P acc' n → R (.ok (.ret .none)) s') (hn : n ≤ sizeLine) :
    wpAny (model prog w) A.in1 (Builtin.«list.__init__» ⟨[.ref S, .ref I], []⟩)
      (fun fin s' => match fin with | .done f => R (.ok f) s' | .again c' => c'.quiet = true ∧ codeAny (model prog w) A c' R s') (fun e s' => R (.error e) s') s := by
  show wpAny _ A.in1 (do let old ← Builtin.List.listItems (.ref S); Builtin.List.listUpdate (.ref S) (fun _ => #[]); letGo old.toList.reverse; Builtin.List.listExtendWith (.ref S) (.ref I) .none) _ _ s
  refine wpAny_bind ?_
  unfold Builtin.List.listItems
  refine wpAny_bind (wpAny_seqItems hS rfl (wpAny_pure ?_))
  show wpAny _ A.in1 (updateSeq S (fun _ => #[]) >>= fun _ => letGo (#[] : Array Value).toList.reverse >>= fun _ => Builtin.List.listExtendWith (.ref S) (.ref I) .none) _ _ s
  refine wpAny_bind (wpAny_updateSeq hS rfl ?_)
  have hS₂ := Heap.get?_update_self (Obj.mapSeq (fun _ => (#[] : Array Value))) hS rfl
  have oth : ∀ b o, b ≠ S → s.heap.get? b = some o → (s.heap.update S (Obj.mapSeq (fun _ => (#[] : Array Value)))).get? b = some o :=
    fun b o hb e => (Heap.get?_update_other _ _ (Ne.symm hb)).trans e
  refine wpAny_bind (wpAny_letGo ?_)
  refine extend_rt (hn := hn) W hT hz0 hs0 S .none _ (W.frame 0 s _ s.toks hst (Nat.le_refl _) fun b hb o e => oth b o (fun h => hSf (h ▸ hb)) e) hSf hI hS₂ fun s' acc' c' hm hS' hacc => ?_
  exact hR s' acc' c' (Moved.trans W.gtrans ((Moved.refl W.grefl).then_heap (Nat.le_refl _) fun b o hb e => oth b o (fun h => hb (h ▸ List.mem_cons_self)) e) hm) hS' hacc
theorem call_list_rt {E : Value → Shared → Prop} {Q : Value → Shared → Prop} (W : WalksS prog w A.in1.in1 I fp wr G n P St) (hT : ∀ i s, St i s → s.TypeIs (.ref I) "reversed") {t : Addr} {items : Array Value} (hz0 : items.size ≤ sizeLine) (hs0 : ∀ s, St 0 s → IsRt s.heap I t ((items.size : Int) - 1) ∧ IsTup s.heap t items) (hst : St 0 s) (hfp : ∀ b ∈ fp, b < s.heap.objs.size) (hI : I ∈ fp)
    (hQ : ∀ s' acc' c', Moved (s.heap.objs.size :: wr) G { s with heap := s.heap.push { cls := .type "list", data := .seq #[] } } s' →
      s'.heap.get? s.heap.objs.size = some { cls := .type "list", dict := none, data := .seq acc' c', slots := #[] } → ItemsOf P acc' n → Q (.ref s.heap.objs.size) s') (hn : n ≤ sizeLine) :
    wpAny (model prog w) A (call (.type "list") [.ref I]) Q E s := by
  have hSf : s.heap.objs.size ∉ fp := fun hm => Nat.lt_irrefl _ (hfp _ hm)
  refine callType_codes (Q₁ := fun obj s₁ => obj = .ref s.heap.objs.size ∧ s₁ = { s with heap := s.heap.push { cls := .type "list", data := .seq #[] } }) F.called_list (F.typeCall_list_1 _) F.entry_list_init
    (code_list_new _ ⟨rfl, rfl⟩) fun obj s₁ h₁ => ?_
  obtain ⟨rfl, rfl⟩ := h₁
  have hS : (s.heap.push { cls := .type "list", data := .seq #[] }).get? s.heap.objs.size = some { cls := .type "list", data := .seq #[] } := Heap.get?_push_size _ rfl
  refine ⟨⟨_, hS, rfl⟩, F.args_list_init_2 _ _, list_init_rt (hn := hn) W hT hz0 hs0 _ (W.frame 0 s _ s.toks hst (Nat.le_refl _) fun b _ o e => Heap.get?_push_of_some _ e) hSf hI hS fun s' acc' c' hm hS' hacc => ?_⟩
  exact ⟨rfl, hQ s' acc' c' hm hS' hacc⟩
end
section
variable {prog : Program} {w : World} {A : Around} {s : Shared} {R : Result → Shared → Prop}
variable {I : Addr} {fp wr : List Addr} {G : Array GenState → Array GenState → Prop} {n : Nat} {P : Nat → Value → Prop} {St : Nat → Shared → Prop}
theorem extend_lri (W : WalksS prog w A.in1 I fp wr G n P St) (hT : ∀ i s, St i s → s.TypeIs (.ref I) "list_reverseiterator") (S : Addr) (res : Value) (c₀ : Nat) (hst : St 0 s) (hSf : S ∉ fp) (hI : I ∈ fp)
    (hS : s.heap.get? S = some { cls := .type "list", data := .seq #[] c₀ })
    (hR : ∀ s' acc' c', Moved (S :: wr) G s s' → s'.heap.get? S = some { cls := .type "list", dict := none, data := .seq acc' c', slots := #[] } → ItemsOf P acc' n → R (.ok (.ret res)) s') (hn : n ≤ sizeLine) :
    wpAny (model prog w) A.in1 (Builtin.List.listExtendWith (.ref S) (.ref I) res)
      (fun fin s' => match fin with | .done f => R (.ok f) s' | .again c' => c'.quiet = true ∧ codeAny (model prog w) A c' R s') (fun e s' => R (.error e) s') s := by
  have hSI : S ≠ I := fun e => hSf (e ▸ hI)
  unfold Builtin.List.listExtendWith
  refine wpAny_bind (wpAny_typeOf (hT 0 _ hst) ?_)
  have h1 : Builtin.List.listSameRef (.ref S) (.ref I) = false := by simp [Builtin.List.listSameRef, hSI]
  have h2 : (Value.type "list_reverseiterator" == Value.type "list") = false := by decide
  have h3 : (Value.type "list_reverseiterator" == Value.type "tuple") = false := by decide
  simp only [h1, h2, h3, Bool.or_false, Bool.false_eq_true, if_false]
  refine wpAny_bind (W.self 0 _ _ _ hst ?_)
  refine wpAny_bind (wpAny_holding ?_)
  unfold Builtin.List.listLengthHint
  refine wpAny_bind (wpAny_specialOf (hT 0 _ hst) nolen_lri ?_)
  show wpAny _ A.in1 (specialOf (Value.ref I) (Str.ofString "__length_hint__") >>= _) _ _ _
  refine wpAny_bind (wpAny_specialOf (hT 0 _ hst) hint_lri ?_)
  generalize hid : ("list_reverseiterator.__length_hint__" : String) = id0
  wp_delta
  rw [show splitId id0 = some ("list_reverseiterator", "__length_hint__") from by subst hid; decide +kernel]
  subst hid
  refine wpAny_bind (wpAny_isInstance (b := true) (hT 0 _ hst) (by rw [isSubtype_type]; kernel_rfl) ?_)
  refine wpAny_pure ?_
  rw [if_neg (by decide)]
  refine wpAny_pure ⟨plainId_quiet F.plain_extend_loop _, codeAny_extend_loopS W hn _ hSf _ n 0 _ _ _ rfl (Nat.zero_le _) hst hS (ItemsOf.nil P) fun s' acc' c' hm hS' hacc => ?_⟩
  exact hR s' acc' c' hm hS' hacc
theorem list_init_lri (W : WalksS prog w A.in1 I fp wr G n P St) (hT : ∀ i s, St i s → s.TypeIs (.ref I) "list_reverseiterator") (S : Addr) (hst : St 0 s) (hSf : S ∉ fp) (hI : I ∈ fp)
    (hS : s.heap.get? S = some { cls := .type "list", data := .seq #[] })
    (hR : ∀ s' acc' c', Moved (S :: wr) G s s' → s'.heap.get? S = some { cls := .type "list", dict := none, data := .seq acc' c', slots := #[] } → ItemsOf P acc' n → R (.ok (.ret .none)) s') (hn : n ≤ sizeLine) :
    wpAny (model prog w) A.in1 (Builtin.«list.__init__» ⟨[.ref S, .ref I], []⟩)
      (fun fin s' => match fin with | .done f => R (.ok f) s' | .again c' => c'.quiet = true ∧ codeAny (model prog w) A c' R s') (fun e s' => R (.error e) s') s := by
  show wpAny _ A.in1 (do let old ← Builtin.List.listItems (.ref S); Builtin.List.listUpdate (.ref S) (fun _ => #[]); letGo old.toList.reverse; Builtin.List.listExtendWith (.ref S) (.ref I) .none) _ _ s
  refine wpAny_bind ?_
  unfold Builtin.List.listItems
  refine wpAny_bind (wpAny_seqItems hS rfl (wpAny_pure ?_))
  show wpAny _ A.in1 (updateSeq S (fun _ => #[]) >>= fun _ => letGo (#[] : Array Value).toList.reverse >>= fun _ => Builtin.List.listExtendWith (.ref S) (.ref I) .none) _ _ s
  refine wpAny_bind (wpAny_updateSeq hS rfl ?_)
  have hS₂ := Heap.get?_update_self (Obj.mapSeq (fun _ => (#[] : Array Value))) hS rfl
  have oth : ∀ b o, b ≠ S → s.heap.get? b = some o → (s.heap.update S (Obj.mapSeq (fun _ => (#[] : Array Value)))).get? b = some o :=
    fun b o hb e => (Heap.get?_update_other _ _ (Ne.symm hb)).trans e
  refine wpAny_bind (wpAny_letGo ?_)
  refine extend_lri (hn := hn) W hT S .none _ (W.frame 0 s _ s.toks hst (Nat.le_refl _) fun b hb o e => oth b o (fun h => hSf (h ▸ hb)) e) hSf hI hS₂ fun s' acc' c' hm hS' hacc => ?_
  exact hR s' acc' c' (Moved.trans W.gtrans ((Moved.refl W.grefl).then_heap (Nat.le_refl _) fun b o hb e => oth b o (fun h => hb (h ▸ List.mem_cons_self)) e) hm) hS' hacc
theorem call_list_lri {E : Value → Shared → Prop} {Q : Value → Shared → Prop} (W : WalksS prog w A.in1.in1 I fp wr G n P St) (hT : ∀ i s, St i s → s.TypeIs (.ref I) "list_reverseiterator") (hst : St 0 s) (hfp : ∀ b ∈ fp, b < s.heap.objs.size) (hI : I ∈ fp)
    (hQ : ∀ s' acc' c', Moved (s.heap.objs.size :: wr) G { s with heap := s.heap.push { cls := .type "list", data := .seq #[] } } s' →
      s'.heap.get? s.heap.objs.size = some { cls := .type "list", dict := none, data := .seq acc' c', slots := #[] } → ItemsOf P acc' n → Q (.ref s.heap.objs.size) s') (hn : n ≤ sizeLine) :
    wpAny (model prog w) A (call (.type "list") [.ref I]) Q E s := by
  have hSf : s.heap.objs.size ∉ fp := fun hm => Nat.lt_irrefl _ (hfp _ hm)
  refine callType_codes (Q₁ := fun obj s₁ => obj = .ref s.heap.objs.size ∧ s₁ = { s with heap := s.heap.push { cls := .type "list", data := .seq #[] } }) F.called_list (F.typeCall_list_1 _) F.entry_list_init
    (code_list_new _ ⟨rfl, rfl⟩) fun obj s₁ h₁ => ?_
  obtain ⟨rfl, rfl⟩ := h₁
  have hS : (s.heap.push { cls := .type "list", data := .seq #[] }).get? s.heap.objs.size = some { cls := .type "list", data := .seq #[] } := Heap.get?_push_size _ rfl
  refine ⟨⟨_, hS, rfl⟩, F.args_list_init_2 _ _, list_init_lri (hn := hn) W hT _ (W.frame 0 s _ s.toks hst (Nat.le_refl _) fun b _ o e => Heap.get?_push_of_some _ e) hSf hI hS fun s' acc' c' hm hS' hacc => ?_⟩
  exact ⟨rfl, hQ s' acc' c' hm hS' hacc⟩
end
/-- list(reversed(x)): a new list -/
def tListRev (K : PySem.W.Frag) (te : TE) : TE := fun σ H Q => te σ H fun v H1 => ∃ (a : Addr) (xs : List V), v = .ref a ∧ (SqL K H1 a xs ∨ SqT K H1 a xs) ∧ ∀ q, H1 q = none → Q (.ref q) (upd H1 q (.lst xs.reverse))
section
variable {X : Cx}
theorem listRev_end {pins : List (Addr × Obj)} {σ : L2.St} {H1 : Hp} {s1 s2 s' : Shared} {Q : VK} {xs : List V} {its : List Value} {acc : Array Value} {c' : Nat} {it S : Addr} (I1 : Inv X pins σ H1 s1) (rv : Vals xs its) (hz : xs.length ≤ sizeLine)
    (hi : s1.heap.objs.size ≤ it) (hS : s1.heap.objs.size ≤ S) (hk : ∀ b o, s1.heap.get? b = some o → s2.heap.get? b = some o) (e2 : s2 = { s1 with heap := s2.heap, toks := s2.toks })
    (hm : Moved [S, it] (fun a b => b = a) s2 s') (hS' : s'.heap.get? S = some { cls := .type "list", dict := none, data := .seq acc c', slots := #[] }) (ha : ItemsOf (fun i v => its.toArray[its.toArray.size - 1 - i]? = some v) acc its.toArray.size)
    (q : ∀ q, H1 q = none → Q (.ref q) (upd H1 q (.lst xs.reverse))) : EP X pins σ Q (.ref S) s' := by
  have k : ∀ b o, s1.heap.get? b = some o → s'.heap.get? b = some o := fun b o e => hm.heap b o (fun z => by
    have lt : b < s1.heap.objs.size := Heap.lt_size e
    rcases List.mem_cons.mp z with z | z
    · rw [z] at lt
      exact Nat.not_lt.mpr hS lt
    · rw [List.mem_singleton.mp z] at lt
      exact Nat.not_lt.mpr hi lt) (hk b o e)
  have es : s' = { s1 with heap := s'.heap, toks := s'.toks } := by
    rw [Moved.eq_with hm, e2]
  rw [es]
  refine ⟨.ref S, upd H1 S (.lst xs.reverse), I1.laid (t' := s'.toks) k hS (show ObjOk X.prog X.w _ _ _ (.lst xs.reverse) from ⟨by rw [List.length_reverse]; exact hz, acc.toList, c', vals_rev rv ha, ?_⟩), rfl, q _ (I1.hok.fresh hS)⟩
  rw [Array.toArray_toList]
  exact hS'
theorem pe_listRev {e : Expr} {te : TE} {p p2 pos pos2 : Pos} (hc : X.calm = true) (hg : Gl X "list") (hm : X.mg "list" = none) (hg2 : Gl X "reversed") (hm2 : X.mg "reversed" = none) (he : PE X e te)
    (hs : starEach [e] X.env = (false, eval e X.env) :: starEach [] X.env := by rfl)
    (hs2 : starEach [.Call (.Name "reversed" p2) [e] [] pos2] X.env = (false, eval (.Call (.Name "reversed" p2) [e] [] pos2) X.env) :: starEach [] X.env := by rfl) :
    PE X (.Call (.Name "list" p) [.Call (.Name "reversed" p2) [e] [] pos2] [] pos) (tListRev X.K te) := by
  refine ⟨fun pins s σ H Q I h => ?_⟩
  refine Call_ (ld_blt I hg hm boot_list (PyProof.Rows.callWith_type1 (args_cons (Call_ (ld_blt I hg2 hm2 PyProof.Rows.boot_reversed (PyProof.Rows.callWith_type1 (args_cons (thn (he.run pins s σ H _ I h) fun u s1 ⟨v, H1, I1, r1, q1⟩ => args_nil ?_) hs) hs rfl))) hs2) hs2 rfl))
  obtain ⟨a, xs, ev, hq, q⟩ := q1
  subst ev
  obtain rfl : u = Value.ref a := r1
  rcases hq with hq | hq
  · obtain ⟨its, rv, p', hz⟩ := I1.list hq
    have hl := p'.isList
    obtain ⟨ol, hol, _⟩ := id hl
    have hne : a ≠ s1.heap.objs.size := Nat.ne_of_lt (Heap.lt_size hol)
    have hn : its.toArray.size ≤ sizeLine := by rw [List.size_toArray, ← rv.length]; exact hz
    refine call_reversed_list hl (args_nil ?_)
    have W := (Walks.listRev (prog := X.prog) (w := X.w) (A := X.A.in1.in1) (I1.ok.hd hc) s1.heap.objs.size a hne its.toArray).toS
    have hsz : (s1.heap.push (revObj a ((its.toArray.size : Int) - 1))).objs.size = s1.heap.objs.size + 1 := by simp [Heap.push]
    refine call_list_lri (s := { s1 with heap := s1.heap.push (revObj a ((its.toArray.size : Int) - 1)) }) W (fun i s st => st.2.1.typeIs) ⟨Nat.zero_le _, ⟨_, Heap.get?_push_size _ rfl, rfl, by simp [revObj]⟩, hl.push _⟩ (fun b hb => ?_) (by simp) (fun s' acc' c' hmv hS' hacc => ?_) hn
    · have lt : a < s1.heap.objs.size := Heap.lt_size hol
      show b < (s1.heap.push _).objs.size
      rw [hsz]
      rcases List.mem_cons.mp hb with z | z
      · rw [z]; exact Nat.lt_succ_self _
      · rw [List.mem_singleton.mp z]; exact Nat.lt_succ_of_lt lt
    · refine listRev_end (s2 := { s1 with heap := (s1.heap.push (revObj a ((its.toArray.size : Int) - 1))).push { cls := .type "list", data := .seq #[] } }) (it := s1.heap.objs.size) I1 rv hz (Nat.le_refl _) ?_ (fun b o e => Heap.get?_push_of_some _ (Heap.get?_push_of_some _ e)) rfl hmv hS' hacc q
      show s1.heap.objs.size ≤ (s1.heap.push _).objs.size
      rw [hsz]; omega
  · obtain ⟨its, rv, p', hz⟩ := I1.tuple hq
    have hl := rv.length
    have hn := line63
    obtain ⟨ol, hol, _⟩ := id p'
    have hne : a ≠ s1.heap.objs.size := Nat.ne_of_lt (Heap.lt_size hol)
    have hn2 : its.toArray.size ≤ sizeLine := by rw [List.size_toArray, ← rv.length]; exact hz
    refine call_reversed_tup p' (fun A E Q k => PyProof.Rows.len_tuple p' (by simp only [List.size_toArray] <;> omega) k) (args_nil ?_)
    have W := (Walks.rt (prog := X.prog) (w := X.w) (A := X.A.in1.in1) (I1.ok.hd hc) s1.heap.objs.size a hne its.toArray hn2).toS
    have hsz : (s1.heap.push (rtObj a ((its.toArray.size : Int) - 1))).objs.size = s1.heap.objs.size + 1 := by simp [Heap.push]
    have pt : IsTup (s1.heap.push (rtObj a ((its.toArray.size : Int) - 1))) a its.toArray := by
      obtain ⟨o, e, r⟩ := p'
      exact ⟨o, Heap.get?_push_of_some _ e, r⟩
    refine call_list_rt (s := { s1 with heap := s1.heap.push (rtObj a ((its.toArray.size : Int) - 1)), toks := s1.toks + 1 + 1 }) W (fun i s st => st.2.1.typeIs) hn2 (fun s st => ⟨by simpa using st.2.1, st.2.2⟩) ⟨Nat.zero_le _, ⟨_, Heap.get?_push_size _ rfl, rfl, by simp [rtObj]⟩, pt⟩ (fun b hb => ?_) (by simp) (fun s' acc' c' hmv hS' hacc => ?_) hn2
    · have lt : a < s1.heap.objs.size := Heap.lt_size hol
      show b < (s1.heap.push _).objs.size
      rw [hsz]
      rcases List.mem_cons.mp hb with z | z
      · rw [z]; exact Nat.lt_succ_self _
      · rw [List.mem_singleton.mp z]; exact Nat.lt_succ_of_lt lt
    · refine listRev_end (s2 := { s1 with heap := (s1.heap.push (rtObj a ((its.toArray.size : Int) - 1))).push { cls := .type "list", data := .seq #[] }, toks := s1.toks + 1 + 1 }) (it := s1.heap.objs.size) I1 rv hz (Nat.le_refl _) ?_ (fun b o e => Heap.get?_push_of_some _ (Heap.get?_push_of_some _ e)) rfl hmv hS' hacc q
      show s1.heap.objs.size ≤ (s1.heap.push _).objs.size
      rw [hsz]; omega
end
end RT

/-! DatTz -/
set_option linter.all false
set_option maxRecDepth 100000
set_option maxHeartbeats 4000000
/-! DatTz: tuple(zip(x, y)), x and y lists. -/
namespace TZ
open PySem PySem.Spec PyProof.Rows L2
theorem nolen_zip : typeLookup (.type "zip") "__len__" = pure none := by rw [typeLookup_type, builtinLookup_eq_fast]; kernel_rfl
theorem nohint_zip : typeLookup (.type "zip") "__length_hint__" = pure none := by rw [typeLookup_type, builtinLookup_eq_fast]; kernel_rfl
/-- pairs laid one after another -/
inductive Zipd (H : Hp) : List (V × V) → List Addr → Hp → Prop
  | nil : Zipd H [] [] H
  | snoc {ps : List (V × V)} {Ts : List Addr} {H' : Hp} {x y : V} {T : Addr} : Zipd H ps Ts H' → H' T = none → Zipd H (ps ++ [(x, y)]) (Ts ++ [T]) (upd H' T (.tup [x, y]))
theorem sql_upd {K : PySem.W.Frag} {H : Hp} {a T : Addr} {xs : List V} {o : HO} (h : SqL K H a xs) (n : H T = none) : SqL K (upd H T o) a xs := by
  rcases h with h | h
  · refine .inl ?_
    rcases h with h | ⟨u, h⟩
    · exact .inl (by rw [upd_ne (fun e => by rw [e, n] at h; cases h)]; exact h)
    · exact .inr ⟨u, by rw [upd_ne (fun e => by rw [e, n] at h; cases h)]; exact h⟩
  · exact .inr h
theorem fp_upd {X : Cx} {pins : List (Addr × Obj)} {H : Hp} {b T : Addr} {o : HO} (h : FpOk X pins H b) (n : b ≠ T) : FpOk X pins (upd H T o) b :=
  ⟨by rw [upd_ne n]; exact h.1, h.2⟩
abbrev lobj (acc : Array Value) (c : Nat) : Obj := { cls := .type "list", dict := none, data := .seq acc c, slots := #[] }
structure ZS (h : Heap) (H : Hp) (z TI TO i1 i2 a b : Addr) (i : Nat) : Prop where
  st : (IsZip h z TI TO .none ∧ ∃ p q, IsPair h TO p q) ∨ ∃ (T : Addr) (f : Bool) (o : Obj) (u : List V), IsZipHeld h z TI TO T f ∧ h.get? T = some o ∧ H T = some (.tup u)
  to : TO < h.objs.size
  ti : IsPair h TI (.ref i1) (.ref i2)
  l1 : h.IsListIter i1 a i
  l2 : h.IsListIter i2 b i
section
variable {X : Cx} {pins : List (Addr × Obj)} {σ : L2.St} {A : Around}
theorem loop_zip (hh : A.in1.handled = none) {H1 : Hp} {z TI TO i1 i2 a b S : Addr} (D : ZipApart z TI TO i1 i2 a b) (res : Value) {xs ys : List V} {R : Result → Shared → Prop} (hxz : xs.length ≤ sizeLine) (h1x : SqL X.K H1 a xs) (h1y : SqL X.K H1 b ys)
    (Sz : S ≠ z) (STI : S ≠ TI) (STO : S ≠ TO) (S1 : S ≠ i1) (S2 : S ≠ i2) :
    ∀ (k i : Nat) (s : Shared) (H : Hp) (Ts : List Addr) (acc : Array Value) (c : Nat), min xs.length ys.length - i = k → i ≤ min xs.length ys.length → Zipd H1 ((xs.zip ys).take i) Ts H → Inv X pins σ H s → SqL X.K H a xs → SqL X.K H b ys →
    ZS s.heap H z TI TO i1 i2 a b i → (∀ q ∈ [z, TI, TO, i1, i2, S], FpOk X pins H q) → s.heap.get? S = some (lobj acc c) → Vals (Ts.map V.ref) acc.toList → acc.size = i →
    (∀ (s' : Shared) (H' : Hp) (Ts' : List Addr) (acc' : Array Value) (c' : Nat), Zipd H1 (xs.zip ys) Ts' H' → Inv X pins σ H' s' → s' = { s with heap := s'.heap, toks := s'.toks } → s'.heap.get? S = some (lobj acc' c') → Vals (Ts'.map V.ref) acc'.toList → acc'.size ≤ sizeLine → R (.ok (.ret res)) s') →
    codeAny (model X.prog X.w) A (.builtin "list.extend.loop" ⟨[.ref S, .ref z, res], []⟩) R s := by
  intro k
  induction k with
  | zero =>
    intro i s H Ts acc c hk hi hz I qx qy zs fp hS hv ha hR
    have hin : i = min xs.length ys.length := by omega
    refine codeAny_builtin F.entry_extend_loop ?_
    rw [Around.under_plainId F.plain_extend_loop _]
    show wpAny _ A.in1 (pyNext (.ref z) >>= _) _ _ s
    obtain ⟨its, rv, p, _⟩ := I.list qx
    obtain ⟨its2, rv2, p2, _⟩ := I.list qy
    have n1 := rv.length
    have n2 := rv2.length
    have he : its.toArray[i]? = none ∨ its2.toArray[i]? = none := by
      rcases Nat.le_total xs.length ys.length with q | q
      · exact .inl (by simp; omega)
      · exact .inr (by simp; omega)
    have fin : ∀ h' : Heap, (∀ c o, c ≠ z → c ≠ TO → c ≠ i1 → c ≠ i2 → s.heap.get? c = some o → h'.get? c = some o) → R (.ok (.ret res)) { s with heap := h' } := fun h' hk => by
      have et : (xs.zip ys).take i = xs.zip ys := by rw [List.take_of_length_le]; rw [List.length_zip]; omega
      rw [et] at hz
      have I' : Inv X pins σ H { s with heap := h' } := I.turnedL (t' := s.toks) (ch := [z, TI, TO, i1, i2, S]) (fun c o hb q =>
        hk c o (fun q' => hb (by simp [q'])) (fun q' => hb (by simp [q'])) (fun q' => hb (by simp [q'])) (fun q' => hb (by simp [q'])) q) fp
      exact hR _ H Ts acc c hz I' rfl (hk S _ Sz STO S1 S2 hS) hv (by rw [ha]; omega)
    rcases zs.st with ⟨z0, p0, q0, t0⟩ | ⟨T, f, o, u, z0, hT, _⟩
    · exact wpAny_bind (wpAny_pyNext_zip_end hh D z0 zs.ti t0 zs.l1 zs.l2 p.isList p2.isList he fun h' hk => wpAny_pure (fin h' hk))
    · exact wpAny_bind (wpAny_pyNext_zip_end_held hh D z0 hT zs.ti zs.l1 zs.l2 p.isList p2.isList he fun h' hk => wpAny_pure (fin h' fun c o c1 _ c3 c4 e => hk c o c1 c3 c4 e))
  | succ k ih =>
    intro i s H Ts acc c hk hi hz I qx qy zs fp hS hv ha hR
    have hlt : i < min xs.length ys.length := by omega
    have hlx : i < xs.length := by omega
    have hly : i < ys.length := by omega
    have hx : xs[i]? = some xs[i] := List.getElem?_eq_getElem hlx
    have hy : ys[i]? = some ys[i] := List.getElem?_eq_getElem hly
    generalize xs[i] = x at hx
    generalize ys[i] = y at hy
    refine codeAny_builtin F.entry_extend_loop ?_
    rw [Around.under_plainId F.plain_extend_loop _]
    show wpAny _ A.in1 (pyNext (.ref z) >>= _) _ _ s
    obtain ⟨its, rv, p, _⟩ := I.list qx
    obtain ⟨its2, rv2, p2, _⟩ := I.list qy
    obtain ⟨u, hu, ru⟩ := rv.get hx
    obtain ⟨u2, hu2, ru2⟩ := rv2.get hy
    have ex : ∀ q ∈ [z, TI, i1, i2, S], q < s.heap.objs.size := fun q hq => by
      have e' : q = z ∨ q = TI ∨ q = i1 ∨ q = i2 ∨ q = S := by simpa using hq
      rcases e' with e | e | e | e | e
      · rw [e]
        rcases zs.st with ⟨z0, _⟩ | ⟨_, _, _, _, z0, _⟩
        · exact Heap.lt_size z0
        · exact Heap.lt_size z0
      · rw [e]; exact Heap.lt_size zs.ti
      · rw [e]; obtain ⟨_, e1, _⟩ := zs.l1; exact Heap.lt_size e1
      · rw [e]; obtain ⟨_, e1, _⟩ := zs.l2; exact Heap.lt_size e1
      · rw [e]; exact Heap.lt_size hS
    have hn : H s.heap.objs.size = none := I.hok.fresh (Nat.le_refl _)
    have nx : ∀ (h' : Heap) (f : Bool) (T : Addr) (o : Obj) (uu : List V), IsZipHeld h' z TI TO T f → h'.get? T = some o → upd H s.heap.objs.size (.tup [x, y]) T = some (.tup uu) → h'.IsListIter i1 a (i + 1) → h'.IsListIter i2 b (i + 1) → IsPair h' s.heap.objs.size u u2 → h'.objs.size = s.heap.objs.size + 1 →
        (∀ c o, c ≠ z → c ≠ TO → c ≠ i1 → c ≠ i2 → s.heap.get? c = some o → h'.get? c = some o) → 
        wpAny (model X.prog X.w) A.in1 (updateSeq S (·.push (.ref s.heap.objs.size)) >>= fun _ => again (.builtin "list.extend.loop" ⟨[.ref S, .ref z, res], []⟩)) (fun fin s' => match fin with | .done f => R (.ok f) s' | .again c' => c'.quiet = true ∧ codeAny (model X.prog X.w) A c' R s') (fun e s' => R (.error e) s') { s with heap := h' } := fun h' f T o uu hz' hT' hTH h1' h2' hP hsz hk => by
      have hS' := hk S _ Sz STO S1 S2 hS
      have new : ObjOk X.prog X.w (upd H s.heap.objs.size (.tup [x, y])) h' s.heap.objs.size (.tup [x, y]) :=
        ⟨by show 2 ≤ sizeLine; decide, [u, u2], .cons ru (.cons ru2 .nil), ⟨_, hP, rfl, _, rfl⟩⟩
      have I1 : Inv X pins σ (upd H s.heap.objs.size (.tup [x, y])) { s with heap := h' } :=
        I.turnedNew (t' := s.toks) (ch := [z, TI, TO, i1, i2, S]) (fun c o hb q => hk c o (fun q' => hb (by simp [q'])) (fun q' => hb (by simp [q'])) (fun q' => hb (by simp [q'])) (fun q' => hb (by simp [q'])) q) fp (Nat.le_refl _) new
      have TOne : TO ≠ s.heap.objs.size := Nat.ne_of_lt zs.to
      have fp1 : ∀ q ∈ [z, TI, TO, i1, i2, S], FpOk X pins (upd H s.heap.objs.size (.tup [x, y])) q := fun q hq => by
        refine fp_upd (fp q hq) ?_
        by_cases e : q = TO
        · rw [e]; exact TOne
        · exact Nat.ne_of_lt (ex q (by
            simp only [List.mem_cons, List.not_mem_nil, or_false] at hq ⊢
            rcases hq with h | h | h | h | h | h
            · exact .inl h
            · exact .inr (.inl h)
            · exact absurd h e
            · exact .inr (.inr (.inl h))
            · exact .inr (.inr (.inr (.inl h)))
            · exact .inr (.inr (.inr (.inr h)))))
      refine wpAny_bind ?_
      have hneS : ∀ c, c ≠ S → ∀ o, h'.get? c = some o → (h'.update S (Obj.mapSeq (·.push (Value.ref s.heap.objs.size)))).get? c = some o := fun c hc o e => (Heap.get?_update_other _ _ (Ne.symm hc)).trans e
      have ha2 : (acc.push (Value.ref s.heap.objs.size)).size = i + 1 := by rw [Array.size_push, ha]
      refine wpAny_updateSeq hS' rfl (wpAny_pure ⟨plainId_quiet F.plain_extend_loop _, ?_⟩) (by rw [ha]; omega) (by show (acc.push _).size ≤ sizeLine + 1; rw [ha2]; omega)
      have TS : T ≠ S := fun e => by
        have q := (fp1 S (by simp)).1
        rw [← e, hTH] at q
        cases q
      refine ih (i + 1) { s with heap := h'.update S (Obj.mapSeq (·.push (Value.ref s.heap.objs.size))) } (upd H s.heap.objs.size (.tup [x, y])) (Ts ++ [s.heap.objs.size]) (acc.push (.ref s.heap.objs.size)) _ (by omega) (by omega) ?_ ?_ (sql_upd qx hn) (sql_upd qy hn) ⟨.inr ⟨T, f, o, uu, hneS z (Ne.symm Sz) _ hz', hneS T TS _ hT', hTH⟩, by
        show TO < (h'.update S _).objs.size
        rw [(Heap.SameBut.update h' S _).1, hsz]
        exact Nat.lt_succ_of_lt zs.to, hneS TI (Ne.symm STI) _ (hk TI _ D.TIz D.TITO D.TIi1 D.TIi2 zs.ti), h1'.at fun o q => hneS i1 (Ne.symm S1) o q, h2'.at fun o q => hneS i2 (Ne.symm S2) o q⟩ fp1 (Heap.get?_update_self _ hS' rfl) ?_ ha2 ?_
      · have et : (xs.zip ys).take (i + 1) = (xs.zip ys).take i ++ [(x, y)] := by
          rw [List.take_add_one]
          congr 1
          have : (xs.zip ys)[i]? = some (x, y) := by rw [List.getElem?_zip_eq_some]; exact ⟨hx, hy⟩
          rw [this]
          rfl
        rw [et]
        exact .snoc hz hn
      · exact Inv.turnedL (s := { s with heap := h' }) (t' := s.toks) (ch := [S]) I1 (fun c o hb q => hneS c (fun e => hb (by simp [e])) o q) fun b hb => by
          rw [List.mem_singleton.mp hb]; exact fp1 S (by simp)
      · rw [List.map_append, Array.toList_push]
        exact hv.append (.cons rfl .nil)
      · intro s' H' Ts' acc' c' a1 a2 a3 a4 a5 a6
        exact hR s' H' Ts' acc' c' a1 a2 a3 a4 a5 a6
    rcases zs.st with ⟨z0, p0, q0, t0⟩ | ⟨T, f, o, uu, z0, hT, hTH⟩
    · refine wpAny_bind (wpAny_pyNext_zip_item D z0 zs.ti t0 zs.l1 zs.l2 p.isList p2.isList (x := u) (y := u2) (by simpa using hu) (by simpa using hu2) fun h' z' t' a1 a2 a3 a4 a5 => ?_)
      exact nx h' false s.heap.objs.size _ [x, y] z' a3 upd_same a1 a2 a3 a4 a5
    · refine wpAny_bind (wpAny_pyNext_zip_item_held D z0 hT zs.ti zs.l1 zs.l2 p.isList p2.isList (x := u) (y := u2) (by simpa using hu) (by simpa using hu2) fun h' z' a1 a2 a3 a4 a5 => ?_)
      have hTl : T ≠ s.heap.objs.size := Nat.ne_of_lt (Heap.lt_size hT)
      have nz : ∀ q ∈ [z, TI, TO, i1, i2, S], T ≠ q := fun q hq e => by
        have := (fp q hq).1
        rw [← e, hTH] at this
        cases this
      exact nx h' true T o uu z' (a5 T o (nz z (by simp)) (nz i1 (by simp)) (nz i2 (by simp)) hT) (by rw [upd_ne hTl]; exact hTH) a1 a2 a3 a4 fun c o c1 _ c3 c4 e => a5 c o c1 c3 c4 e

theorem collect_zip (hh : A.in1.handled = none) {s : Shared} {E : Value → Shared → Prop} {H1 : Hp} {z TI TO i1 i2 a b : Addr} (D : ZipApart z TI TO i1 i2 a b) {xs ys : List V} {Q : List Value → Shared → Prop} (hxz : xs.length ≤ sizeLine) (h1x : SqL X.K H1 a xs) (h1y : SqL X.K H1 b ys)
    (I : Inv X pins σ H1 s) (hz : IsZip s.heap z TI TO .none) (hTI : IsPair s.heap TI (.ref i1) (.ref i2)) {p0 q0 : Value} (hTO : IsPair s.heap TO p0 q0) (hl1 : s.heap.IsListIter i1 a 0) (hl2 : s.heap.IsListIter i2 b 0) (fp : ∀ q ∈ [z, TI, TO, i1, i2], FpOk X pins H1 q)
    (hQ : ∀ (s' : Shared) (H' : Hp) (Ts' : List Addr) (acc' : Array Value), Zipd H1 (xs.zip ys) Ts' H' → Inv X pins σ H' s' → s' = { s with heap := s'.heap, toks := s'.toks } → Vals (Ts'.map V.ref) acc'.toList → acc'.size ≤ sizeLine → Q acc'.toList s') :
    wpAny (model X.prog X.w) A (collect (.ref z)) Q E s := by
  have lz := Heap.lt_size hz
  have lTI := Heap.lt_size hTI
  have lTO := Heap.lt_size hTO
  have l1 : i1 < s.heap.objs.size := by obtain ⟨_, e1, _⟩ := hl1; exact Heap.lt_size e1
  have l2 : i2 < s.heap.objs.size := by obtain ⟨_, e1, _⟩ := hl2; exact Heap.lt_size e1
  unfold collect
  refine wpAny_bind (wpAny_runValue (codeAny_builtin F.entry_proto_collect ?_))
  rw [Around.under_plainId F.plain_proto_collect _]
  show wpAny _ A.in1 (newList [] >>= fun l => again (.builtin "list.__iadd__" ⟨[l, .ref z], []⟩)) _ _ s
  refine wpAny_bind (wpAny_newObj_type ?_)
  refine wpAny_pure ⟨plainId_quiet F.plain_list_iadd _, codeAny_builtin F.entry_list_iadd ?_⟩
  rw [Around.under_plainId F.plain_list_iadd _]
  have pu : ∀ b o, s.heap.get? b = some o → (s.heap.push { cls := .type "list", data := .seq ([] : List Value).toArray }).get? b = some o := fun b o e => Heap.get?_push_of_some _ e
  have hz1 : IsZip (s.heap.push { cls := .type "list", data := .seq ([] : List Value).toArray }) z TI TO .none := pu _ _ hz
  have hT : ({ s with heap := s.heap.push { cls := .type "list", data := .seq ([] : List Value).toArray } } : Shared).TypeIs (.ref z) "zip" := ⟨_, hz1, rfl⟩
  show wpAny _ A.in1 (Builtin.List.listExtendWith (.ref s.heap.objs.size) (.ref z) (.ref s.heap.objs.size)) _ _ _
  unfold Builtin.List.listExtendWith
  refine wpAny_bind (wpAny_typeOf hT ?_)
  have h1 : Builtin.List.listSameRef (.ref s.heap.objs.size) (.ref z) = false := by simp [Builtin.List.listSameRef, Nat.ne_of_gt lz]
  have h2 : (Value.type "zip" == Value.type "list") = false := by decide
  have h3 : (Value.type "zip" == Value.type "tuple") = false := by decide
  simp only [h1, h2, h3, Bool.or_false, Bool.false_eq_true, if_false]
  refine wpAny_bind (wpAny_pyIter_zip (s := { s with heap := s.heap.push { cls := .type "list", data := .seq ([] : List Value).toArray } }) hz1 ?_)
  refine wpAny_bind (wpAny_holding ?_)
  unfold Builtin.List.listLengthHint
  refine wpAny_bind (wpAny_specialOf hT nolen_zip ?_)
  show wpAny _ A.in1 (specialOf (Value.ref z) (Str.ofString "__length_hint__") >>= _) _ _ _
  refine wpAny_bind (wpAny_specialOf hT nohint_zip ?_)
  refine wpAny_pure ?_
  show wpAny _ A.in1 (rule "list.extend.makes-room" >>= fun _ => Builtin.List.listTouch (.ref s.heap.objs.size) >>= fun _ =>
    again (.builtin "list.extend.loop" ⟨[.ref s.heap.objs.size, .ref z, .ref s.heap.objs.size], []⟩)) _ _ _
  refine wpAny_bind (wpAny_rule ?_)
  have hS₁ : (s.heap.push { cls := .type "list", data := .seq ([] : List Value).toArray }).get? s.heap.objs.size = some { cls := .type "list", data := .seq ([] : List Value).toArray } := Heap.get?_push_size _ rfl
  refine wpAny_bind ?_
  show wpAny _ A.in1 (updateSeq s.heap.objs.size (·.push .none) >>= fun _ => updateSeq s.heap.objs.size (·.pop)) _ _ _
  refine wpAny_bind (wpAny_updateSeq hS₁ rfl ?_)
  have hS₂ := Heap.get?_update_self (Obj.mapSeq (·.push Value.none)) hS₁ rfl
  refine wpAny_updateSeq hS₂ rfl ?_
  have hS₃ := Heap.get?_update_self (Obj.mapSeq (·.pop)) hS₂ rfl
  have oth : ∀ b o, b ≠ s.heap.objs.size → s.heap.get? b = some o →
      (((s.heap.push { cls := .type "list", data := .seq ([] : List Value).toArray }).update s.heap.objs.size (Obj.mapSeq (·.push Value.none))).update s.heap.objs.size (Obj.mapSeq (·.pop))).get? b = some o :=
    fun b o hb e => (Heap.get?_update_other _ _ (Ne.symm hb)).trans ((Heap.get?_update_other _ _ (Ne.symm hb)).trans (pu _ _ e))
  have I2 : Inv X pins σ H1 { s with heap := ((s.heap.push { cls := .type "list", data := .seq ([] : List Value).toArray }).update s.heap.objs.size (Obj.mapSeq (·.push Value.none))).update s.heap.objs.size (Obj.mapSeq (·.pop)) } :=
    I.kept (t' := s.toks) fun b o e => oth b o (Nat.ne_of_lt (Heap.lt_size e)) e
  have fpS : FpOk X pins H1 s.heap.objs.size := I.fpOk (Nat.le_refl _) (I.hok.fresh (Nat.le_refl _))
  have zs : ZS (((s.heap.push { cls := .type "list", data := .seq ([] : List Value).toArray }).update s.heap.objs.size (Obj.mapSeq (·.push Value.none))).update s.heap.objs.size (Obj.mapSeq (·.pop))) H1 z TI TO i1 i2 a b 0 :=
    ⟨.inl ⟨oth _ _ (Nat.ne_of_lt lz) hz, _, _, oth _ _ (Nat.ne_of_lt lTO) hTO⟩, Heap.lt_size (oth _ _ (Nat.ne_of_lt lTO) hTO), oth _ _ (Nat.ne_of_lt lTI) hTI, hl1.at fun o e => oth _ _ (Nat.ne_of_lt l1) e, hl2.at fun o e => oth _ _ (Nat.ne_of_lt l2) e⟩
  refine wpAny_pure ⟨plainId_quiet F.plain_extend_loop _, loop_zip (X := X) (pins := pins) (σ := σ) hh D _ hxz h1x h1y (Nat.ne_of_gt lz) (Nat.ne_of_gt lTI) (Nat.ne_of_gt lTO) (Nat.ne_of_gt l1) (Nat.ne_of_gt l2) _ 0 _ H1 [] #[] _ rfl (Nat.zero_le _) (by rw [List.take_zero]; exact .nil) I2 h1x h1y zs (fun q hq => ?_) hS₃ .nil rfl fun s' H' Ts' acc' c' a1 a2 a3 a4 a5 a6 => ?_⟩
  · by_cases e : q = s.heap.objs.size
    · rw [e]; exact fpS
    · refine fp q ?_
      simp only [List.mem_cons, List.not_mem_nil, or_false] at hq ⊢
      rcases hq with h | h | h | h | h | h
      · exact .inl h
      · exact .inr (.inl h)
      · exact .inr (.inr (.inl h))
      · exact .inr (.inr (.inr (.inl h)))
      · exact .inr (.inr (.inr (.inr h)))
      · exact absurd h e
  · show wpAny _ A (load s.heap.objs.size >>= _) _ _ s'
    refine wpAny_bind (wpAny_load a4 ?_)
    exact wpAny_pure (hQ s' H' Ts' acc' a1 a2 a3 a5 a6)
theorem code_tuple_new_zip (hh : A.handled = none) {s : Shared} {E : Value → Shared → Prop} {H1 : Hp} {z TI TO i1 i2 a b : Addr} (D : ZipApart z TI TO i1 i2 a b) {xs ys : List V} {Q : Value → Shared → Prop} (hxz : xs.length ≤ sizeLine) (h1x : SqL X.K H1 a xs) (h1y : SqL X.K H1 b ys)
    (I : Inv X pins σ H1 s) (hz : IsZip s.heap z TI TO .none) (hTI : IsPair s.heap TI (.ref i1) (.ref i2)) {p0 q0 : Value} (hTO : IsPair s.heap TO p0 q0) (hl1 : s.heap.IsListIter i1 a 0) (hl2 : s.heap.IsListIter i2 b 0) (fp : ∀ q ∈ [z, TI, TO, i1, i2], FpOk X pins H1 q)
    (hQ : ∀ (s' : Shared) (H' : Hp) (Ts' : List Addr) (acc' : Array Value), Zipd H1 (xs.zip ys) Ts' H' → Inv X pins σ H' s' → s' = { s with heap := s'.heap, toks := s'.toks } → Vals (Ts'.map V.ref) acc'.toList → acc'.size ≤ sizeLine → Q (.ref s'.heap.objs.size) { s' with heap := s'.heap.push { cls := .type "tuple", data := .seq acc' } }) :
    codeAny (model X.prog X.w) A (.call (.builtin "tuple.__new__") ⟨[.type "tuple", .ref z], []⟩) (wants Q E) s := by
  refine codeAny_of_tree ?_
  show wpAny _ A.in1 (do checkBuiltinCall "tuple.__new__" ⟨[.type "tuple", .ref z], []⟩; again (.builtin "tuple.__new__" ⟨[.type "tuple", .ref z], []⟩)) _ _ s
  refine wpAny_bind (wpAny_of_eq (F.newCall_tuple_1 _) (wpAny_pure ⟨plainId_quiet F.plain_tuple_new _, codeAny_builtin F.entry_tuple_new ?_⟩))
  rw [Around.under_plainId F.plain_tuple_new _]
  have hsub := sub_tuple_self
  have hinit := init_tuple_lookup
  have hmh := madeHere_tuple
  have hTI' : s.TypeIs (.ref z) "zip" := ⟨_, hz, rfl⟩
  have hh1 : A.in1.in1.handled = none := hh
  wp_walk using wpAny_typeOf hTI', collect_zip (X := X) (pins := pins) (σ := σ) (A := A.in1) hh1 D hxz h1x h1y I hz hTI hTO hl1 hl2 fp
  intro s' H' Ts' acc' a1 a2 a3 a5 a6
  show wpAny _ _ (Builtin.Tuple.tupleExact acc'.toList.toArray >>= fun v => ret v) _ _ _
  unfold Builtin.Tuple.tupleExact
  refine wpAny_bind (wpAny_newObj_type ?_ (by show acc'.toList.toArray.size ≤ sizeLine; simp only [Array.toArray_toList]; exact a6))
  refine wpAny_pure ?_
  have e : acc'.toList.toArray = acc' := by simp
  rw [e]
  exact hQ s' H' Ts' acc' a1 a2 a3 a5 a6
theorem call_tuple_zip (hh : A.handled = none) {s : Shared} {E : Value → Shared → Prop} {H1 : Hp} {z TI TO i1 i2 a b : Addr} (D : ZipApart z TI TO i1 i2 a b) {xs ys : List V} {Q : Value → Shared → Prop} (hxz : xs.length ≤ sizeLine) (h1x : SqL X.K H1 a xs) (h1y : SqL X.K H1 b ys)
    (I : Inv X pins σ H1 s) (hz : IsZip s.heap z TI TO .none) (hTI : IsPair s.heap TI (.ref i1) (.ref i2)) {p0 q0 : Value} (hTO : IsPair s.heap TO p0 q0) (hl1 : s.heap.IsListIter i1 a 0) (hl2 : s.heap.IsListIter i2 b 0) (fp : ∀ q ∈ [z, TI, TO, i1, i2], FpOk X pins H1 q)
    (hQ : ∀ (s' : Shared) (H' : Hp) (Ts' : List Addr) (acc' : Array Value), Zipd H1 (xs.zip ys) Ts' H' → Inv X pins σ H' s' → s' = { s with heap := s'.heap, toks := s'.toks } → Vals (Ts'.map V.ref) acc'.toList → acc'.size ≤ sizeLine → Q (.ref s'.heap.objs.size) { s' with heap := s'.heap.push { cls := .type "tuple", data := .seq acc' } }) :
    wpAny (model X.prog X.w) A (call (.type "tuple") [.ref z]) Q E s := by
  refine callType_codes (Q₁ := fun obj s₁ => s₁.TypeIs obj "tuple" ∧ Q obj s₁) F.called_tuple (F.typeCall_tuple_1 _) F.entry_object_init
    (code_tuple_new_zip (X := X) (pins := pins) (σ := σ) (A := A.in1) hh D hxz h1x h1y I hz hTI hTO hl1 hl2 fp fun s' H' Ts' acc' a1 a2 a3 a5 a6 => ⟨⟨_, Heap.get?_push_size _ rfl, rfl⟩, hQ s' H' Ts' acc' a1 a2 a3 a5 a6⟩) fun obj s₁ h₁ => ?_
  exact ⟨h₁.1, F.args_object_init_2 obj _, object_init_meets F.called_tuple.init.lookup F.called_tuple.made (by decide) X.prog X.w A.in1 _ s₁ ⟨h₁.1, rfl, h₁.2⟩⟩
end
/-- tuple(zip(x, y)), x and y lists: new pairs in a new tuple -/
def tTupZip (K : PySem.W.Frag) (ta : TA) : TE := fun σ H Q => ta σ H fun vs H1 => ∃ (a b : Addr) (xs ys : List V), vs = [.ref a, .ref b] ∧ SqL K H1 a xs ∧ SqL K H1 b ys ∧ ∀ Ts H' q, Zipd H1 (xs.zip ys) Ts H' → H' q = none → Q (.ref q) (upd H' q (.tup (Ts.map V.ref)))
section
variable {X : Cx}
theorem pe_tupZip {e e2 : Expr} {ta : TA} {p p2 pos pos2 : Pos} (hc : X.calm = true) (hg : Gl X "tuple") (hm : X.mg "tuple" = none) (hg2 : Gl X "zip") (hm2 : X.mg "zip" = none) (ha : PA X [e, e2] ta)
    (hs : starEach [e, e2] X.env = (false, eval e X.env) :: starEach [e2] X.env := by rfl) (hpl : (backTo pos2 (starEach [e2] X.env)).any (·.1) = false := by rfl)
    (hs2 : starEach [.Call (.Name "zip" p2) [e, e2] [] pos2] X.env = (false, eval (.Call (.Name "zip" p2) [e, e2] [] pos2) X.env) :: starEach [] X.env := by rfl) :
    PE X (.Call (.Name "tuple" p) [.Call (.Name "zip" p2) [e, e2] [] pos2] [] pos) (tTupZip X.K ta) := by
  refine ⟨fun pins s σ H Q I h => ?_⟩
  refine Call_ (ld_blt I hg hm boot_tuple (PyProof.Rows.callWith_type1 (args_cons (Call_ (ld_blt I hg2 hm2 PyProof.Rows.boot_zip (PyProof.Rows.callWith_type1 (thn (ha.run pos2 pins s σ H _ I h) fun us s1 ⟨vs, H1, I1, r1, q1⟩ => ?_) hs hpl))) hs2) hs2 rfl))
  obtain ⟨a, b, xs, ys, ex, hqx, hqy, q⟩ := q1
  subst ex
  cases r1 with
  | cons r rr =>
    cases rr with
    | cons r' rr =>
      cases rr
      cases r
      cases r'
      have fresh5 : ∀ c, c ∈ [s1.heap.objs.size + 4, s1.heap.objs.size + 2, s1.heap.objs.size + 3, s1.heap.objs.size, s1.heap.objs.size + 1] → FpOk X pins H1 c := fun c hcm => by
        have e' : c = s1.heap.objs.size + 4 ∨ c = s1.heap.objs.size + 2 ∨ c = s1.heap.objs.size + 3 ∨ c = s1.heap.objs.size ∨ c = s1.heap.objs.size + 1 := by simpa using hcm
        have hle : s1.heap.objs.size ≤ c := by
          rcases e' with z | z | z | z | z
          · rw [z]; exact Nat.le_add_right _ _
          · rw [z]; exact Nat.le_add_right _ _
          · rw [z]; exact Nat.le_add_right _ _
          · rw [z]; exact Nat.le_refl _
          · rw [z]; exact Nat.le_add_right _ _
        exact I1.fpOk hle (I1.hok.fresh hle)
      obtain ⟨its, rv, p1, hz1⟩ := I1.list hqx
      obtain ⟨its2, rv2, p2', _⟩ := I1.list hqy
      refine call_zip_2 p1.isList p2'.isList fun h' hz hTI hTO h1 h2 hsz hk => args_nil ?_
      have I2 : Inv X pins σ H1 { s1 with heap := h' } := I1.kept (t' := s1.toks) hk
      refine call_tuple_zip (X := X) (pins := pins) (σ := σ) (I1.ok.hd hc) (PySem.W.ktu_apart s1.heap.objs.size a b p1.lt p2'.lt) hz1 hqx hqy I2 hz hTI hTO h1 h2 fresh5 fun s' H' Ts' acc' a1 a2 a3 a5 a6 => ?_
      have e3 : acc'.toList.length = Ts'.length := by rw [← a5.length, List.length_map]
      have I3 : Inv X pins σ (upd H' s'.heap.objs.size (.tup (Ts'.map V.ref))) { s' with heap := s'.heap.push { cls := .type "tuple", data := .seq acc' } } :=
        a2.laid (t' := s'.toks) (fun c o e => Heap.get?_push_of_some _ e) (Nat.le_refl _) (show ObjOk X.prog X.w _ _ _ (.tup (Ts'.map V.ref)) from ⟨by rw [List.length_map, ← e3, Array.length_toList]; exact a6, acc'.toList, a5, by rw [Array.toArray_toList]; exact IsTup.new _ _⟩)
      have es : ({ s' with heap := s'.heap.push { cls := .type "tuple", data := .seq acc' } } : Shared) = { s1 with heap := s'.heap.push { cls := .type "tuple", data := .seq acc' }, toks := s'.toks } := by rw [a3]
      rw [es] at I3 ⊢
      exact ⟨.ref s'.heap.objs.size, _, I3, rfl, q Ts' H' _ a1 (a2.hok.fresh (Nat.le_refl _))⟩
end
end TZ

/-! Dat9 -/
set_option linter.all false
set_option maxRecDepth 100000
set_option maxHeartbeats 1000000
/-! Dat9: what loops and comprehensions walk. -/
namespace Dat
open PySem PySem.Spec L2 PyProof.Rows

/-- the iterator J yields these data, whatever the store has become -/
def ItOf (K : PySem.W.Frag) (T : List (Addr × Str)) (J : It) (ρ0 : List Addr) (H0 : Hp) (I : Items) : Prop := ∀ (i : Nat) (ρ : List Addr) (H : Hp) (m : Mem), Ext ρ0 H0 ρ H → Sto K T ρ H m → chkW I.2 m →
  (∀ d, I.1[i]? = some d → J.go i H ∧ ∀ x H', J.yld i H x H' → Ext ρ H ρ H' ∧ Sto K T ρ H' m ∧ RelD K ρ H' d x) ∧ (I.1.length ≤ i → J.stop i H)
def tI (K : PySem.W.Frag) (T : List (Addr × Str)) (C : Ctl) (W : WX) (e : II) : TI := fun σ H R => ∃ ρ m env, Sto K T ρ H m ∧ REnv K ρ H env σ ∧
  Then K T ρ H (evalI e C env m) (fun I _ ρ' H' => ∀ J, ItOf K T J ρ' H' I → R J H') (exW K W σ)
theorem PI.imp {X : Cx} {tg e : Expr} {t t' : TI} (h : PI X tg e t) (i : ∀ σ H Q, t' σ H Q → t σ H Q) : PI X tg e t' := ⟨fun pins s σ H Q I q => h.run pins s σ H Q I (i σ H Q q)⟩
section
variable {X : Cx} {T : List (Addr × Str)} {C : Ctl} {W : WX} {c : Ctx} {Pg : Prog} {lv : Nat} {K : PySem.W.Frag} {ρ ρ0 : List Addr} {H H0 : Hp} {m m0 : Mem}
/-- a walk over a list or a tuple, chosen when it is there -/
theorem pi_lt {tg l : Expr} {tl : TE} (hl : PE X l tl) : PI X tg l (fun σ H R => tl σ H fun x H1 => ∃ a, x = .ref a ∧ (((∃ xs, SqL X.K H1 a xs) ∧ R (Itl X.K a) H1) ∨ ((∃ xs, SqT X.K H1 a xs) ∧ R (Itt X.K a) H1))) := by
  refine ⟨fun pins s σ H R I h => ?_⟩
  refine thn (hl.run pins s σ H _ I h) fun v s1 ⟨x, H1, I1, r1, q1⟩ => ?_
  obtain ⟨a, e, q⟩ := q1
  subst e
  cases r1
  rcases q with ⟨⟨xs, hq⟩, q⟩ | ⟨⟨xs, hq⟩, q⟩
  · obtain ⟨its, rv, p, hz⟩ := I1.list hq
    refine wpAny_pyIter_list p.isList ?_
    refine ⟨s1.heap.objs.size, [s1.heap.objs.size], _, _, H1, rfl, I1.kept (t' := s1.toks) fun b o e => Heap.get?_push_of_some _ e, turn_list a _, ⟨_, Heap.get?_push_size _ rfl, rfl, rfl⟩, fun b hb => ?_, q⟩
    have e : b = s1.heap.objs.size := by simpa using hb
    subst e
    exact I1.fpOk (Nat.le_refl _) (I1.hok.fresh (Nat.le_refl _))
  · obtain ⟨its, rv, p, hz⟩ := I1.tuple hq
    refine wpAny_pyIter_tuple (show s1.heap.IsTuple a its.toArray from p) ?_
    refine ⟨s1.heap.objs.size, [s1.heap.objs.size], _, _, H1, rfl, I1.kept (t' := s1.toks) fun b o e => Heap.get?_push_of_some _ e, turn_tuple a _, ⟨_, Heap.get?_push_size _ rfl, rfl, rfl⟩, fun b hb => ?_, q⟩
    have e : b = s1.heap.objs.size := by simpa using hb
    subst e
    exact I1.fpOk (Nat.le_refl _) (I1.hok.fresh (Nat.le_refl _))
/-- which objects a datum that can be walked is -/
inductive Wk (K : PySem.W.Frag) (T : List (Addr × Str)) (ρ : List Addr) (H : Hp) (I : Items) (a : Addr) : Prop
  | tup (vs : List V) (h : SqT K H a vs) (r : RelDs K ρ H I.1 vs) (o : I.2 = .none)
  | fro (vs : List V) (h : SqF K H a vs) (r : RelDs K ρ H I.1 vs) (o : I.2 = .none)
  | ref (i : Nat) (h : ρ[i]? = some a) (o : I.2 = .some (i, I.1))
theorem seqW_wk {d : D} {x : V} {ok : Items → Mem → List Addr → Hp → Prop} {ex : Str → Option D → Mem → List Addr → Hp → Prop} (r : RelD K ρ H d x) (h : Then K T ρ H (seqW d m) ok ex) : ∃ a I, x = .ref a ∧ Wk K T ρ H I a ∧ seqW d m = .ok I m ∧ (∀ i, I.2 = .some (i, I.1) → m[i]? = some (.lst I.1)) := by
  cases r with
  | tup h1 h2 => exact ⟨_, (_, .none), rfl, .tup _ h1 h2 rfl, rfl, fun _ z => by cases z⟩
  | fro h1 h2 => exact ⟨_, (_, .none), rfl, .fro _ h1 h2 rfl, rfl, fun _ z => by cases z⟩
  | @ref i a e =>
    unfold seqW at h
    simp only at h
    split at h
    · rename_i l hm
      refine ⟨_, (l, .some (i, l)), rfl, .ref i e rfl, ?_, fun j z => ?_⟩
      · unfold seqW
        simp only
        rw [hm]
      · cases z
        exact hm
    · exact (show False from h).elim
  | _ => exact (show False from h).elim
theorem SqF.sqL {a : Addr} {vs : List V} (h : SqF K H a vs) : SqL K H a vs := by
  rcases h with ⟨o, h1⟩ | h1
  · exact .inl (.inr ⟨o, h1⟩)
  · exact .inr h1
/-- a list at all later times | a tuple -/
def Lat (K : PySem.W.Frag) (T : List (Addr × Str)) (ρ0 : List Addr) (H0 : Hp) (I : Items) (Sq : Hp → List V → Prop) : Prop :=
  ∀ ρ H m, Ext ρ0 H0 ρ H → Sto K T ρ H m → chkW I.2 m → ∃ vs, RelDs K ρ H I.1 vs ∧ Sq H vs
theorem Wk.cases {I : Items} {a : Addr} (w : Wk K T ρ0 H0 I a) (S0 : Sto K T ρ0 H0 m0) (hm : ∀ i, I.2 = .some (i, I.1) → m0[i]? = some (.lst I.1)) :
    ((∃ vs, RelDs K ρ0 H0 I.1 vs ∧ SqL K H0 a vs) ∧ Lat K T ρ0 H0 I (fun H vs => SqL K H a vs)) ∨ ((∃ vs, RelDs K ρ0 H0 I.1 vs ∧ SqT K H0 a vs) ∧ Lat K T ρ0 H0 I (fun H vs => SqT K H a vs)) := by
  cases w with
  | tup vs h r o => exact .inr ⟨⟨vs, r, h⟩, fun ρ H m E S _ => ⟨vs, r.mono S0 E, S0.sqT E h⟩⟩
  | fro vs h r o => exact .inl ⟨⟨vs, r, h.sqL⟩, fun ρ H m E S _ => ⟨vs, r.mono S0 E, (S0.sqF E h).sqL⟩⟩
  | ref i h o =>
    refine .inl ⟨?_, fun ρ H m E S hc => ?_⟩
    · obtain ⟨vs, h1, r⟩ := lst_at S0 h (hm i o)
      exact ⟨vs, r, SqL.of h1⟩
    · rw [o] at hc
      obtain ⟨vs, h1, r⟩ := lst_at S (E.get h) hc
      exact ⟨vs, r, SqL.of h1⟩
theorem it_list {I : Items} {a : Addr} (L : Lat K T ρ0 H0 I fun H vs => SqL K H a vs) : ItOf K T (Itl K a) ρ0 H0 I := fun i ρ H m E S hc => by
  obtain ⟨vs, r, q⟩ := L ρ H m E S hc
  refine ⟨fun d hd => ?_, fun hl => ⟨vs, q, by rw [← r.length]; exact hl⟩⟩
  obtain ⟨v, hv, rv⟩ := r.get hd
  refine ⟨⟨vs, v, q, hv⟩, fun x H' y => ?_⟩
  obtain ⟨rfl, y⟩ := y
  have e := y vs q
  rw [hv] at e
  cases e
  exact ⟨Ext.refl _ _, S, rv⟩
theorem it_tup {I : Items} {a : Addr} (L : Lat K T ρ0 H0 I fun H vs => SqT K H a vs) : ItOf K T (Itt K a) ρ0 H0 I := fun i ρ H m E S hc => by
  obtain ⟨vs, r, q⟩ := L ρ H m E S hc
  refine ⟨fun d hd => ?_, fun hl => ⟨vs, q, by rw [← r.length]; exact hl⟩⟩
  obtain ⟨v, hv, rv⟩ := r.get hd
  refine ⟨⟨vs, v, q, hv⟩, fun x H' y => ?_⟩
  obtain ⟨rfl, y⟩ := y
  have e := y vs q
  rw [hv] at e
  cases e
  exact ⟨Ext.refl _ _, S, rv⟩
theorem rev_get {α : Type} {l : List α} {i : Nat} {d : α} (h : l.reverse[i]? = some d) : i < l.length ∧ l[l.length - 1 - i]? = some d := by
  obtain ⟨hi, e⟩ := List.getElem?_eq_some_iff.mp h
  have hi : i < l.length := by simpa using hi
  refine ⟨hi, ?_⟩
  rw [List.getElem?_reverse hi] at h
  exact h
theorem it_revL {I : Items} {a : Addr} {n : Nat} (hn : n = I.1.length) (L : Lat K T ρ0 H0 I fun H vs => SqL K H a vs) : ItOf K T (Itv K a n) ρ0 H0 (I.1.reverse, I.2) := fun i ρ H m E S hc => by
  obtain ⟨vs, r, q⟩ := L ρ H m E S hc
  refine ⟨fun d hd => ?_, fun hl => by show n ≤ i; simp at hl; omega⟩
  obtain ⟨hi, hd⟩ := rev_get hd
  obtain ⟨v, hv, rv⟩ := r.get hd
  rw [← hn] at hi hv
  refine ⟨⟨hi, vs, v, q, hv⟩, fun x H' y => ?_⟩
  obtain ⟨rfl, y⟩ := y
  have e := y vs q
  rw [hv] at e
  cases e
  exact ⟨Ext.refl _ _, S, rv⟩
theorem it_revT {I : Items} {a : Addr} {n : Nat} (hn : n = I.1.length) (L : Lat K T ρ0 H0 I fun H vs => SqT K H a vs) : ItOf K T (RT.ItvT K a n) ρ0 H0 (I.1.reverse, I.2) := fun i ρ H m E S hc => by
  obtain ⟨vs, r, q⟩ := L ρ H m E S hc
  refine ⟨fun d hd => ?_, fun hl => by show n ≤ i; simp at hl; omega⟩
  obtain ⟨hi, hd⟩ := rev_get hd
  obtain ⟨v, hv, rv⟩ := r.get hd
  rw [← hn] at hi hv
  refine ⟨⟨hi, vs, v, q, hv⟩, fun x H' y => ?_⟩
  obtain ⟨rfl, y⟩ := y
  have e := y vs q
  rw [hv] at e
  cases e
  exact ⟨Ext.refl _ _, S, rv⟩
theorem it_enumL {I : Items} {a : Addr} (L : Lat K T ρ0 H0 I fun H vs => SqL K H a vs) : ItOf K T (Ite K a) ρ0 H0 ((I.1.zipIdx).map (fun p => .tup [.int (p.2 : Nat), p.1]), I.2) := fun i ρ H m E S hc => by
  obtain ⟨vs, r, q⟩ := L ρ H m E S hc
  refine ⟨fun d hd => ?_, fun hl => ⟨vs, q, by simp at hl; rw [← r.length]; exact hl⟩⟩
  simp only [List.getElem?_map, List.getElem?_zipIdx, Option.map_map, Option.map_eq_some_iff] at hd
  obtain ⟨d0, hd, rfl⟩ := hd
  obtain ⟨v, hv, rv⟩ := r.get hd
  refine ⟨⟨vs, v, q, hv⟩, fun x H' y => ?_⟩
  obtain ⟨p, w, rfl, np, rfl, y⟩ := y
  have e := y vs q
  rw [hv] at e
  cases e
  obtain ⟨E1, S1⟩ := S.aside (o := .tup [.int (i : Nat), v]) np
  refine ⟨E1, S1, .tup (.inl (.inl upd_same)) (.cons ?_ (.cons (rv.mono S E1) .nil))⟩
  simp
  exact .int _
theorem it_enumT {I : Items} {a : Addr} (L : Lat K T ρ0 H0 I fun H vs => SqT K H a vs) : ItOf K T (IteT K a) ρ0 H0 ((I.1.zipIdx).map (fun p => .tup [.int (p.2 : Nat), p.1]), I.2) := fun i ρ H m E S hc => by
  obtain ⟨vs, r, q⟩ := L ρ H m E S hc
  refine ⟨fun d hd => ?_, fun hl => ⟨vs, q, by simp at hl; rw [← r.length]; exact hl⟩⟩
  simp only [List.getElem?_map, List.getElem?_zipIdx, Option.map_map, Option.map_eq_some_iff] at hd
  obtain ⟨d0, hd, rfl⟩ := hd
  obtain ⟨v, hv, rv⟩ := r.get hd
  refine ⟨⟨vs, v, q, hv⟩, fun x H' y => ?_⟩
  obtain ⟨p, w, rfl, np, rfl, y⟩ := y
  have e := y vs q
  rw [hv] at e
  cases e
  obtain ⟨E1, S1⟩ := S.aside (o := .tup [.int (i : Nat), v]) np
  refine ⟨E1, S1, .tup (.inl (.inl upd_same)) (.cons ?_ (.cons (rv.mono S E1) .nil))⟩
  simp
  exact .int _
theorem it_rng {a : Int} {n : Nat} : ItOf K T (Itr a n) ρ0 H0 (rngL a n, .none) := fun i ρ H m E S hc => by
  refine ⟨fun d hd => ?_, fun hl => by show n ≤ i; simpa [rngL] using hl⟩
  simp only [rngL, List.getElem?_map, Option.map_eq_some_iff] at hd
  obtain ⟨j, hj, rfl⟩ := hd
  obtain ⟨hi, e⟩ := List.getElem?_eq_some_iff.mp hj
  simp at hi e
  subst e
  refine ⟨hi, fun x H' y => ?_⟩
  obtain ⟨rfl, rfl⟩ := y
  exact ⟨Ext.refl _ _, S, .int _⟩
theorem zip_get {α β : Type} {l : List α} {k : List β} {i : Nat} {p : α × β} (h : (l.zip k)[i]? = some p) : l[i]? = some p.1 ∧ k[i]? = some p.2 := by
  rw [List.getElem?_zip_eq_some] at h
  exact h
theorem it_zipT {l k : List D} {a b : Addr} {vs ws : List V} (S0 : Sto K T ρ0 H0 m0) (ha : SqT K H0 a vs) (hb : SqT K H0 b ws) (ra : RelDs K ρ0 H0 l vs) (rb : RelDs K ρ0 H0 k ws) :
    ItOf K T (RZ.ItzT K a b) ρ0 H0 ((l.zip k).map (fun p => .tup [p.1, p.2]), .none) := fun i ρ H m E S hc => by
  have qa := S0.sqT E ha
  have qb := S0.sqT E hb
  have ra' := ra.mono S0 E
  have rb' := rb.mono S0 E
  refine ⟨fun d hd => ?_, fun hl => ⟨vs, ws, qa, qb, ?_⟩⟩
  · simp only [List.getElem?_map, Option.map_eq_some_iff] at hd
    obtain ⟨p, hp, rfl⟩ := hd
    obtain ⟨h1, h2⟩ := zip_get hp
    obtain ⟨v, hv, rv⟩ := ra'.get h1
    obtain ⟨w, hw, rw'⟩ := rb'.get h2
    refine ⟨⟨vs, ws, v, w, qa, qb, hv, hw⟩, fun x H' y => ?_⟩
    obtain ⟨q, v2, w2, rfl, np, rfl, y1, y2⟩ := y
    have e1 := y1 vs qa
    have e2 := y2 ws qb
    rw [hv] at e1
    rw [hw] at e2
    cases e1
    cases e2
    obtain ⟨E1, S1⟩ := S.aside (o := .tup [v, w]) np
    exact ⟨E1, S1, .tup (.inl (.inl upd_same)) (.cons (rv.mono S E1) (.cons (rw'.mono S E1) .nil))⟩
  · simp at hl
    rw [← ra.length, ← rb.length]
    omega
theorem it_zipL {l k : List D} {a b : Addr} {ia ib : Nat} (ea : ρ0[ia]? = some a) (eb : ρ0[ib]? = some b) :
    ItOf K T (Itz K a b) ρ0 H0 ((l.zip k).map (fun p => .tup [p.1, p.2]), .two (ia, l) (ib, k)) := fun i ρ H m E S hc => by
  obtain ⟨vs, h1, ra'⟩ := lst_at S (E.get ea) hc.1
  obtain ⟨ws, h2, rb'⟩ := lst_at S (E.get eb) hc.2
  have qa : SqL K H a vs := SqL.of h1
  have qb : SqL K H b ws := SqL.of h2
  refine ⟨fun d hd => ?_, fun hl => ⟨vs, ws, qa, qb, ?_⟩⟩
  · simp only [List.getElem?_map, Option.map_eq_some_iff] at hd
    obtain ⟨p, hp, rfl⟩ := hd
    obtain ⟨h1, h2⟩ := zip_get hp
    obtain ⟨v, hv, rv⟩ := ra'.get h1
    obtain ⟨w, hw, rw'⟩ := rb'.get h2
    refine ⟨⟨vs, ws, v, w, qa, qb, hv, hw⟩, fun x H' y => ?_⟩
    obtain ⟨q, v2, w2, rfl, np, rfl, y1, y2⟩ := y
    have e1 := y1 vs qa
    have e2 := y2 ws qb
    rw [hv] at e1
    rw [hw] at e2
    cases e1
    cases e2
    obtain ⟨E1, S1⟩ := S.aside (o := .tup [v, w]) np
    exact ⟨E1, S1, .tup (.inl (.inl upd_same)) (.cons (rv.mono S E1) (.cons (rw'.mono S E1) .nil))⟩
  · simp at hl
    rw [← ra'.length, ← rb'.length]
    omega

/-! ### the forms -/
abbrev OkI (X : Cx) (T : List (Addr × Str)) (C : Ctl) (W : WX) (tg e : Expr) (ir : II) : Prop := PI X tg e (tI X.K T C W ir)
theorem ok_seq {tg e : Expr} {e' : IE} (h : OkE X T C W e e') : OkI X T C W tg e (.seq e') := by
  refine PI.imp (pi_lt h) fun σ H R ⟨ρ, m, env, S, RE, q⟩ => ?_
  unfold evalI at q
  refine ⟨ρ, m, env, S, RE, q.bind.imp (fun d m1 ρ1 H1 E1 S1 q1 v r => ?_) fun _ _ _ _ _ _ _ z => z⟩
  obtain ⟨a, I, rfl, w, e, hm⟩ := seqW_wk r q1
  rw [e] at q1
  refine ⟨a, rfl, ?_⟩
  rcases w.cases S1 hm with ⟨⟨vs, r, q⟩, L⟩ | ⟨⟨vs, r, q⟩, L⟩
  · exact .inl ⟨⟨vs, q⟩, q1 ρ1 H1 (Ext.refl _ _) S1 _ (it_list L)⟩
  · exact .inr ⟨⟨vs, q⟩, q1 ρ1 H1 (Ext.refl _ _) S1 _ (it_tup L)⟩
theorem ok_rev {tg e : Expr} {e' : IE} {p pos : Pos} (G : Good c C Pg lv T X W) (hg : c.isGl "reversed" = true) (pl : plainE e = true) (h : OkE X T C W e e') : OkI X T C W tg (.Call (.Name "reversed" p) [e] [] pos) (.rev e') := by
  refine PI.imp (RT.pi_revA (G.gl hg) (G.blt _ (by decide +kernel)) h (noStar pl _ _)) fun σ H R ⟨ρ, m, env, S, RE, q⟩ => ?_
  unfold evalI at q
  refine ⟨ρ, m, env, S, RE, q.bind.imp (fun d m1 ρ1 H1 E1 S1 q1 v r => ?_) fun _ _ _ _ _ _ _ z => z⟩
  have q2 := q1.bind
  obtain ⟨a, I, rfl, w, e, hm⟩ := seqW_wk r q2
  rw [e] at q1
  rcases w.cases S1 hm with ⟨⟨vs, r, q⟩, L⟩ | ⟨⟨vs, r, q⟩, L⟩
  · exact ⟨a, vs, rfl, .inl ⟨q, q1 ρ1 H1 (Ext.refl _ _) S1 _ (it_revL r.length.symm L)⟩⟩
  · exact ⟨a, vs, rfl, .inr ⟨q, q1 ρ1 H1 (Ext.refl _ _) S1 _ (it_revT r.length.symm L)⟩⟩
theorem ok_rng1 {tg e : Expr} {e' : IE} {p pos : Pos} (G : Good c C Pg lv T X W) (hg : c.isGl "range" = true) (pl : plainE e = true) (h : OkE X T C W e e') : OkI X T C W tg (.Call (.Name "range" p) [e] [] pos) (.rng1 [e']) := by
  refine PI.imp (pi_range1 (G.gl hg) (G.blt _ (by decide +kernel)) (ok_cons pl h ok_nil) (noStar pl _ _)) fun σ H R ⟨ρ, m, env, S, RE, q⟩ => ?_
  unfold evalI at q
  refine seqA S RE q fun xs H1 ρ1 m1 ds E1 S1 R1 r1 q1 => ?_
  unfold rngD at q1
  split at q1
  · rename_i i j e
    cases e
    obtain ⟨v, rfl, r⟩ := rel1 r1
    cases r
    split at q1
    · rename_i hj
      refine ⟨j, rfl, hj.2.2.1, hj.2.2.2, ?_⟩
      have q2 := q1 ρ1 H1 (Ext.refl _ _) S1 (Itr 0 j.toNat)
      rw [Int.sub_zero] at q2
      exact q2 it_rng
    · exact (show False from q1).elim
  · exact (show False from q1).elim
theorem ok_rng2 {tg a b : Expr} {a' b' : IE} {p pos : Pos} (G : Good c C Pg lv T X W) (hg : c.isGl "range" = true) (pa : plainE a = true) (pb : plainE b = true) (ha : OkE X T C W a a') (hb : OkE X T C W b b') : OkI X T C W tg (.Call (.Name "range" p) [a, b] [] pos) (.rng [a', b']) := by
  refine PI.imp (pi_range2 (G.gl hg) (G.blt _ (by decide +kernel)) (ok_cons pa ha (ok_cons pb hb ok_nil)) (by rw [noStar pa, noStar pb] <;> rfl) (noStar pb _ _)) fun σ H R ⟨ρ, m, env, S, RE, q⟩ => ?_
  unfold evalI at q
  refine seqA S RE q fun xs H1 ρ1 m1 ds E1 S1 R1 r1 q1 => ?_
  unfold rngD at q1
  split at q1
  · obtain ⟨v, w, rfl, r, r'⟩ := rel2 r1
    cases r
    cases r'
    split at q1
    · rename_i hj
      exact ⟨_, _, rfl, hj, q1 ρ1 H1 (Ext.refl _ _) S1 _ it_rng⟩
    · exact (show False from q1).elim
  · exact (show False from q1).elim
theorem ok_zip {tgs : List Expr} {kk : Nat} {tpos : Pos} {a b : Expr} {a' b' : IE} {p pos : Pos} (G : Good c C Pg lv T X W) (hg : c.isGl "zip" = true) (pa : plainE a = true) (pb : plainE b = true) (ha : OkE X T C W a a') (hb : OkE X T C W b b') : OkI X T C W (.Tuple tgs kk tpos) (.Call (.Name "zip" p) [a, b] [] pos) (.zip [a', b']) := by
  refine PI.imp (RZ.pi_zipA (G.gl hg) (G.blt _ (by decide +kernel)) (ok_cons pa ha (ok_cons pb hb ok_nil)) (noStar pa _ _) (noStars (es := [b]) (by simp [plainEs, pb]))) fun σ H R ⟨ρ, m, env, S, RE, q⟩ => ?_
  unfold evalI at q
  refine seqA S RE q fun xs H1 ρ1 m1 ds E1 S1 R1 r1 q1 => ?_
  unfold zipD at q1
  split at q1
  · obtain ⟨v, w, rfl, r, r'⟩ := rel2 r1
    cases r with
    | tup h1 r =>
    cases r' with
    | tup h2 r' => exact ⟨_, _, _, _, rfl, .inr ⟨h1, h2, q1 ρ1 H1 (Ext.refl _ _) S1 _ (it_zipT S1 h1 h2 r r')⟩⟩
  · obtain ⟨v, w, rfl, r, r'⟩ := rel2 r1
    cases r with
    | ref e1 =>
    cases r' with
    | ref e2 =>
    split at q1
    · rename_i l k hl hk
      obtain ⟨vs, h1, ra'⟩ := lst_at S1 e1 hl
      obtain ⟨ws, h2, rb'⟩ := lst_at S1 e2 hk
      exact ⟨_, _, _, _, rfl, .inl ⟨SqL.of h1, SqL.of h2, q1 ρ1 H1 (Ext.refl _ _) S1 _ (it_zipL e1 e2)⟩⟩
    · exact (show False from q1).elim
  · exact (show False from q1).elim
theorem ok_enm {tgs : List Expr} {kk : Nat} {tpos : Pos} {e : Expr} {e' : IE} {p pos : Pos} (G : Good c C Pg lv T X W) (hg : c.isGl "enumerate" = true) (pl : plainE e = true) (h : OkE X T C W e e') : OkI X T C W (.Tuple tgs kk tpos) (.Call (.Name "enumerate" p) [e] [] pos) (.enm e') := by
  refine PI.imp (pi_enumA (G.gl hg) (G.blt _ (by decide +kernel)) (ok_cons pl h ok_nil) (noStar pl _ _)) fun σ H R ⟨ρ, m, env, S, RE, q⟩ => ?_
  unfold evalI at q
  refine ⟨ρ, m, env, S, RE, ?_⟩
  have q0 : Then X.K T ρ H ((evalEs [e'] C env m).bind fun ds m1 => match ds with
    | [x] => (seqW x m1).bind fun I m2 => Res.ok ((I.1.zipIdx).map (fun p => D.tup [.int (p.2 : Nat), p.1]), I.2) m2
    | _ => .stuck) (fun I _ ρ' H' => ∀ J, ItOf X.K T J ρ' H' I → R J H') (exW X.K W σ) := by
    have ee : evalEs [e'] C env m = (evalE e' C env m).bind fun d m1 => .ok [d] m1 := by
      rw [evalEs]
      congr 1
    rw [ee]
    cases hr : evalE e' C env m with
    | stuck => rw [hr] at q; exact q
    | exn a b c => rw [hr] at q; exact q
    | ok d m1 => rw [hr] at q; exact q
  refine q0.bind.imp (fun ds m1 ρ1 H1 E1 S1 q1 vs r => ?_) fun _ _ _ _ _ _ _ z => z
  split at q1
  · obtain ⟨v, e1, r9⟩ := rel1 r
    subst e1
    have q2 := q1.bind
    obtain ⟨a, I, rfl, w, e, hm⟩ := seqW_wk r9 q2
    rw [e] at q1
    rcases w.cases S1 hm with ⟨⟨vs, r, q⟩, L⟩ | ⟨⟨vs, r, q⟩, L⟩
    · exact ⟨a, vs, rfl, .inl ⟨q, q1 ρ1 H1 (Ext.refl _ _) S1 _ (it_enumL L)⟩⟩
    · exact ⟨a, vs, rfl, .inr ⟨q, q1 ρ1 H1 (Ext.refl _ _) S1 _ (it_enumT L)⟩⟩
  · exact (show False from q1).elim
theorem ok_lrev {e : Expr} {e' : IE} {p p2 pos pos2 : Pos} (G : Good c C Pg lv T X W) (hg : c.isGl "list" = true) (hr : c.isGl "reversed" = true) (pl : plainE e = true) (h : OkE X T C W e e') :
    OkE X T C W (.Call (.Name "list" p) [.Call (.Name "reversed" p2) [e] [] pos2] [] pos) (.lrev e') := by
  refine PE.imp (RT.pe_listRev G.calm (G.gl hg) (G.blt _ (by decide +kernel)) (G.gl hr) (G.blt _ (by decide +kernel)) h (noStar pl _ _) rfl) fun σ H Q ⟨ρ, m, env, S, RE, q⟩ => ?_
  unfold evalE at q
  refine ⟨ρ, m, env, S, RE, q.bind.imp (fun d m1 ρ1 H1 E1 S1 q1 v r => ?_) fun _ _ _ _ _ _ _ z => z⟩
  split at q1
  · rename_i l hl
    obtain ⟨a, vs, rfl, hq, rr⟩ := seq_read S1 r hl
    exact ⟨a, vs, rfl, hq, fun q np => Then.alloc S1 q1 np rr.reverse⟩
  · exact (show False from q1).elim
theorem lst_read {x : V} {d : D} {l : List D} (S : Sto K T ρ H m) (r : RelD K ρ H d x) (h : lstD m d = some l) : ∃ a vs, x = .ref a ∧ SqL K H a vs ∧ RelDs K ρ H l vs := by
  cases r with
  | fro h1 h2 =>
    cases h
    refine ⟨_, _, rfl, ?_, h2⟩
    rcases h1 with ⟨o, h1⟩ | h1
    · exact .inl (.inr ⟨o, h1⟩)
    · exact .inr h1
  | @ref i a e =>
    simp only [lstD] at h
    split at h
    · rename_i l' hm
      cases h
      obtain ⟨b, e2, vs, h1, h2⟩ := S.cell i _ hm
      rw [e] at e2
      cases e2
      exact ⟨_, vs, rfl, SqL.of h1, h2⟩
    · cases h
  | _ => cases h
theorem RelDs.fst (ρ : List Addr) (H : Hp) : ∀ {l k : List D} {vs ws : List V}, RelDs K ρ H l vs → RelDs K ρ H k ws → RelDs K ρ H ((l.zip k).map Prod.fst) ((vs.zip ws).map Prod.fst) ∧ RelDs K ρ H ((l.zip k).map Prod.snd) ((vs.zip ws).map Prod.snd)
  | [], _, _, _, .nil, _ => ⟨.nil, .nil⟩
  | _ :: _, [], _ :: _, _, .cons _ _, .nil => ⟨.nil, .nil⟩
  | _ :: _, _ :: _, _ :: _, _ :: _, .cons a r, .cons b q => ⟨.cons a (RelDs.fst ρ H r q).1, .cons b (RelDs.fst ρ H r q).2⟩
theorem zipd_rel (S : Sto K T ρ H m) {ps : List (V × V)} {Ts : List Addr} {H' : Hp} (z : TZ.Zipd H ps Ts H') : ∀ {ds : List (D × D)}, RelDs K ρ H (ds.map Prod.fst) (ps.map Prod.fst) → RelDs K ρ H (ds.map Prod.snd) (ps.map Prod.snd) → Ext ρ H ρ H' ∧ Sto K T ρ H' m ∧ RelDs K ρ H' (ds.map prD) (Ts.map V.ref) := by
  induction z with
  | nil =>
    intro ds r1 r2
    have e := r1.length
    simp only [List.length_map, List.length_nil] at e
    rw [List.length_eq_zero_iff.mp e]
    exact ⟨Ext.refl _ _, S, .nil⟩
  | @snoc ps Ts H2 x y p z np ih =>
    intro ds r1 r2
    have e := r1.length
    simp only [List.length_map, List.length_append, List.length_cons, List.length_nil] at e
    have hne : ds ≠ [] := fun q => by rw [q] at e; simp at e
    rw [← List.dropLast_concat_getLast hne] at r1 r2 ⊢
    generalize ds.getLast hne = d at *
    have el : ds.dropLast.length = ps.length := by rw [List.length_dropLast]; omega
    generalize ds.dropLast = d0 at *
    have q1 := r1.take ps.length
    have q2 := r2.take ps.length
    have q3 := r1.drop ps.length
    have q4 := r2.drop ps.length
    simp only [List.map_append, List.map_cons, List.map_nil] at q1 q2 q3 q4
    rw [List.take_left' (by rw [List.length_map, el]), List.take_left' (by rw [List.length_map])] at q1 q2
    rw [List.drop_left' (by rw [List.length_map, el]), List.drop_left' (by rw [List.length_map])] at q3 q4
    obtain ⟨E1, S1, rr⟩ := ih q1 q2
    obtain ⟨E2, S2⟩ := S1.aside (o := .tup [x, y]) np
    refine ⟨E1.trans E2, S2, ?_⟩
    rw [List.map_append, List.map_append]
    refine (rr.mono S1 E2).append ?_
    have E3 := E1.trans E2
    cases q3 with
    | cons a _ =>
    cases q4 with
    | cons b _ =>
    exact .cons (.tup (.inl (.inl upd_same)) (.cons (a.mono S E3) (.cons (b.mono S E3) .nil))) .nil
theorem ok_tzip {e e2 : Expr} {e' e2' : IE} {p p2 pos pos2 : Pos} (G : Good c C Pg lv T X W) (hg : c.isGl "tuple" = true) (hr : c.isGl "zip" = true) (pa : plainE e = true) (pb : plainE e2 = true) (ha : OkE X T C W e e') (hb : OkE X T C W e2 e2') :
    OkE X T C W (.Call (.Name "tuple" p) [.Call (.Name "zip" p2) [e, e2] [] pos2] [] pos) (.blt .tzip [e', e2']) := by
  refine PE.imp (TZ.pe_tupZip G.calm (G.gl hg) (G.blt _ (by decide +kernel)) (G.gl hr) (G.blt _ (by decide +kernel)) (ok_cons pa ha (ok_cons pb hb ok_nil)) (noStar pa _ _) (noStars (es := [e2]) (by simp [plainEs, pb])) rfl) fun σ H Q ⟨ρ, m, env, S, RE, q⟩ => ?_
  unfold evalE at q
  refine ⟨ρ, m, env, S, RE, q.bind.imp (fun ds m1 ρ1 H1 E1 S1 q1 vs r => ?_) fun _ _ _ _ _ _ _ z => z⟩
  match ds, vs, r with
  | [], _, _ => exact (show False from q1).elim
  | [_], _, _ => exact (show False from q1).elim
  | _ :: _ :: _ :: _, _, _ => exact (show False from q1).elim
  | [x, y], _, .cons rx (.cons ry .nil) =>
    have q2 : Then X.K T ρ1 H1 (tzipD x y m1) (fun d _ ρ' H' => ∀ v, RelD X.K ρ' H' d v → Q v H') (exW X.K W σ) := q1
    unfold tzipD at q2
    split at q2
    · rename_i l hl
      split at q2
      · rename_i k hk
        obtain ⟨a, xs, rfl, hx, r1⟩ := lst_read S1 rx hl
        obtain ⟨b, ys, rfl, hy, r2⟩ := lst_read S1 ry hk
        refine ⟨a, b, xs, ys, rfl, hx, hy, fun Ts H' q' z np => ?_⟩
        obtain ⟨E2, S2, rr⟩ := zipd_rel S1 z (ds := l.zip k) (RelDs.fst _ _ r1 r2).1 (RelDs.fst _ _ r1 r2).2
        exact Then.aside S2 (q2.ext E2) np fun ρ' H'' E e => .tup (.inl (.inl (by rw [e]; exact upd_same))) (rr.mono S2 E)
      · exact (show False from q2).elim
    · exact (show False from q2).elim
end
end Dat

/-! Dat10 -/
set_option linter.all false
set_option maxRecDepth 100000
set_option maxHeartbeats 1000000
/-! Dat10: targets, comprehensions. -/
namespace Dat
open PySem PySem.Spec L2 PyProof.Rows

section
variable {X : Cx} {T : List (Addr × Str)} {C : Ctl} {W : WX} {c : Ctx} {Pg : Prog} {lv : Nat}
/-- all but these slots as they were -/
def But (vs : List Nat) (σ σ' : L2.St) : Prop := σ'.length = σ.length ∧ ∀ i, i ∉ vs → σ'[i]? = σ[i]?
theorem But.refl (vs : List Nat) (σ : L2.St) : But vs σ σ := ⟨rfl, fun _ _ => rfl⟩
theorem But.trans {vs ws : List Nat} {σ σ1 σ2 : L2.St} (a : But vs σ σ1) (b : But ws σ1 σ2) : But (vs ++ ws) σ σ2 :=
  ⟨b.1.trans a.1, fun i h => (b.2 i fun z => h (List.mem_append_right _ z)).trans (a.2 i fun z => h (List.mem_append_left _ z))⟩
theorem But.sub {vs ws : List Nat} {σ σ1 : L2.St} (a : But vs σ σ1) (h : ∀ i ∈ vs, i ∈ ws) : But ws σ σ1 := ⟨a.1, fun i hi => a.2 i fun z => hi (h i z)⟩
theorem wipe_get {σ : L2.St} : ∀ {vs : List Nat} {i : Nat}, (L2.wipe σ vs)[i]? = if i ∈ vs ∧ i < σ.length then some none else σ[i]?
  | [], i => by simp [L2.wipe]
  | v :: vs, i => by
    unfold L2.wipe
    rw [List.getElem?_set, wipe_get, L2.wipe_length]
    by_cases h : v = i
    · subst h
      by_cases hl : v < σ.length
      · simp [hl]
      · simp [hl]
    · have h2 : ¬ i = v := fun e => h e.symm
      simp [h, h2]
theorem But.wipe {vs : List Nat} {σ σ' : L2.St} (b : But vs σ σ') : L2.wipe σ' vs = L2.wipe σ vs := by
  refine List.ext_getElem? fun i => ?_
  rw [wipe_get, wipe_get, b.1]
  by_cases h : i ∈ vs
  · by_cases hl : i < σ.length
    · simp [h, hl]
    · rw [if_neg (fun z => hl z.2), if_neg (fun z => hl z.2), List.getElem?_eq_none (by rw [b.1]; omega), List.getElem?_eq_none (by omega)]
  · rw [if_neg (fun z => h z.1), if_neg (fun z => h z.1)]
    exact b.2 i h
theorem wipe_wipe {vs : List Nat} {σ : L2.St} : L2.wipe (L2.wipe σ vs) vs = L2.wipe σ vs := by
  refine List.ext_getElem? fun i => ?_
  rw [wipe_get, wipe_get, L2.wipe_length]
  split
  · rfl
  · rfl
def gT (K : PySem.W.Frag) (T : List (Addr × Str)) (t : Tg) : TG := fun v σ H Q => ∃ ρ m env d env', Sto K T ρ H m ∧ REnv K ρ H env σ ∧ RelD K ρ H d v ∧ asgT m t d env = some env' ∧
  ∀ σ', REnv K ρ H env' σ' → But (tgVars t) σ σ' → Q σ' H
def gTs (K : PySem.W.Frag) (T : List (Addr × Str)) (t : List Tg) : TGs := fun v σ H Q => ∃ ρ m env d env', Sto K T ρ H m ∧ REnv K ρ H env σ ∧ RelDs K ρ H d v ∧ asgTs m t d env = some env' ∧
  ∀ σ', REnv K ρ H env' σ' → But (tgVarsL t) σ σ' → Q σ' H
theorem PG.imp {e : Expr} {t t' : TG} (h : PG X e t) (i : ∀ v σ H Q, t' v σ H Q → t v σ H Q) : PG X e t' := ⟨fun pins s σ H x u Q I r q => h.run pins s σ H x u Q I r (i x σ H Q q)⟩
theorem PGs.imp {e : List Expr} {t t' : TGs} (h : PGs X e t) (i : ∀ v σ H Q, t' v σ H Q → t v σ H Q) : PGs X e t' := ⟨fun pins s σ H x u Q I r q => h.run pins s σ H x u Q I r (i x σ H Q q)⟩
theorem pg_or {e : Expr} {t t' : TG} (h : PG X e t) (h' : PG X e t') : PG X e (fun v σ H Q => t v σ H Q ∨ t' v σ H Q) := ⟨fun pins s σ H x u Q I r q => q.elim (h.run pins s σ H x u Q I r) (h'.run pins s σ H x u Q I r)⟩
theorem cTg_plain {n : Nat} {e : Expr} {t : Tg} (h : cTg c n e = some t) : plainE e = true := by
  cases n with
  | zero => simp [cTg] at h
  | succ n => cases e <;> first | rfl | simp [cTg] at h
theorem asgEach_cons {e : Expr} {es : List Expr} {env : Env} (h : plainE e = true) : assignEach (e :: es) env = (false, assign e env) :: assignEach es env := by
  cases e <;> first | rfl | cases h
theorem asgEach_len {env : Env} : ∀ {es : List Expr}, plainEs es = true → (assignEach es env).length = es.length ∧ (assignEach es env).findIdx? (·.1) = none
  | [], _ => ⟨rfl, rfl⟩
  | e :: es, h => by
    have h2 := pa_two h
    obtain ⟨i1, i2⟩ := asgEach_len (env := env) h2.2
    rw [asgEach_cons h2.1]
    refine ⟨by simp [i1], ?_⟩
    rw [List.findIdx?_cons]
    simp [i2]
theorem ok_tgs {n : Nat} (G : Good c C Pg lv T X W) (IH : ∀ e t, cTg c n e = some t → PG X e (gT X.K T t)) : ∀ {es : List Expr} {ts : List Tg}, es.mapM (cTg c n) = some ts → PGs X es (gTs X.K T ts) ∧ plainEs es = true ∧ ts.length = es.length
  | [], ts, h => by
    simp only [List.mapM_nil] at h
    cases h
    refine ⟨PGs.imp pgs_nil fun v σ H Q ⟨ρ, m, env, d, env', S, R, r, e, q⟩ => ?_, rfl, rfl⟩
    cases r with
    | nil =>
      simp only [asgTs, Option.some.injEq] at e
      subst e
      exact ⟨rfl, q σ R (But.refl _ _)⟩
    | cons _ _ => simp [asgTs] at e
  | e :: es, ts, h => by
    simp only [List.mapM_cons, Option.pure_def, Option.bind_eq_bind, Option.bind_eq_some_iff, Option.some.injEq] at h
    obtain ⟨t, ht, ts', hts, rfl⟩ := h
    obtain ⟨h2, h3, h4⟩ := ok_tgs G IH hts
    have p := cTg_plain ht
    refine ⟨PGs.imp (pgs_cons (IH e t ht) h2 (by rw [asgEach_cons p] <;> rfl)) fun v σ H Q ⟨ρ, m, env, d, env', S, R, r, e, q⟩ => ?_, by simp [plainEs, p, h3], by simp [h4]⟩
    cases r with
    | nil => simp [asgTs] at e
    | cons r1 r2 =>
      simp only [asgTs, Option.bind_eq_some_iff] at e
      obtain ⟨env1, e1, e2⟩ := e
      refine ⟨_, _, rfl, ρ, m, env, _, env1, S, R, r1, e1, fun σ1 R1 b1 => ⟨ρ, m, env1, _, env', S, R1, r2, e2, fun σ2 R2 b2 => ?_⟩⟩
      exact q σ2 R2 (by simpa [tgVarsL] using b1.trans b2)
theorem ok_tg (G : Good c C Pg lv T X W) : ∀ (n : Nat) (e : Expr) (t : Tg), cTg c n e = some t → PG X e (gT X.K T t)
  | 0, e, t, h => by simp [cTg] at h
  | n + 1, e, t, h => by
    cases e with
    | Name x pos =>
      simp only [cTg] at h
      split at h
      · rename_i i hi
        split at h
        · rename_i hk
          cases h
          obtain ⟨h1, h2, h3⟩ := slot_ok hi
          have hloc : L2.Loc X.env.scope x := by
            rw [G.sc]
            rcases hk with z | z
            · exact .inl z
            · exact .inr z.1
          have hfn : X.fn x = true ∨ X.env.scope.names.lookup x = some .local := by
            rw [G.sc]
            rcases hk with z | z
            · exact .inr z
            · exact .inl (z.2.elim (fun z => G.fn z x) (fun z => G.fnB x z))
          refine PG.imp (pg_name (i := i) G.nd (by rw [G.hN]; exact h1) hloc hfn) fun v σ H Q ⟨ρ, m, env, d, env', S, R, r, e, q⟩ => ?_
          simp only [asgT] at e
          split at e
          · cases e
            refine q _ (R.set r) ⟨by simp, fun j hj => ?_⟩
            rw [List.getElem?_set_ne]
            intro z
            exact hj (by simp [tgVars, z])
          · cases e
        · cases h
      · cases h
    | Tuple es k pos =>
      simp only [cTg, Option.map_eq_some_iff] at h
      obtain ⟨ts, hts, rfl⟩ := h
      obtain ⟨h2, h3, h4⟩ := ok_tgs G (fun e t h => ok_tg G n e t h) hts
      obtain ⟨l1, l2⟩ := asgEach_len (env := X.env) h3
      refine PG.imp (pg_or (pg_unl (n := es.length) G.calm h2 l1 l2) (pg_tup (n := es.length) G.calm h2 l1 l2)) fun v σ H Q ⟨ρ, m, env, d, env', S, R, r, e, q⟩ => ?_
      simp only [asgT] at e
      split at e
      · rename_i ds hds
        obtain ⟨a, vs, rfl, hq, r⟩ := seq_read S r hds
        have hl : ∀ {ts : List Tg} {ds : List D} {env env' : EnvD}, asgTs m ts ds env = some env' → ds.length = ts.length := by
          intro ts
          induction ts with
          | nil => intro ds env env' h; cases ds with
            | nil => rfl
            | cons _ _ => simp [asgTs] at h
          | cons t ts ih => intro ds env env' h; cases ds with
            | nil => simp [asgTs] at h
            | cons d ds =>
              simp only [asgTs, Option.bind_eq_some_iff] at h
              obtain ⟨e1, _, h⟩ := h
              simp [ih h]
        have hn : vs.length = es.length := by rw [← r.length, hl e, h4]
        rcases hq with hq | hq
        · exact .inl ⟨_, _, rfl, hq, hn, ρ, m, env, _, env', S, R, r, e, q⟩
        · exact .inr ⟨_, _, rfl, hq, hn, ρ, m, env, _, env', S, R, r, e, q⟩
      · cases e
    | _ => simp [cTg] at h
end
end Dat

/-! Dat11 -/
set_option linter.all false
set_option maxRecDepth 100000
set_option maxHeartbeats 1000000
/-! Dat11: comprehensions. -/
namespace Dat
open PySem PySem.Spec L2 PyProof.Rows

section
variable {K : PySem.W.Frag} {T : List (Addr × Str)} {ρ ρ' : List Addr} {H H' : Hp} {m : Mem}
/-- what does not change is read as before -/
theorem RelD.read {d : D} {v : V} (k : ∀ a o, H a = some o → cellish o = false → H' a = some o) (h : RelD K ρ H d v) : RelD K ρ H' d v := by
  have t : ∀ {a : Addr} {vs : List V}, SqT K H a vs → SqT K H' a vs := fun {a vs} h => by
    rcases h with (h | ⟨o, h⟩) | h
    · exact .inl (.inl (k _ _ h rfl))
    · exact .inl (.inr ⟨o, k _ _ h rfl⟩)
    · exact .inr h
  have f : ∀ {a : Addr} {vs : List V}, SqF K H a vs → SqF K H' a vs := fun {a vs} h => by
    rcases h with ⟨o, h⟩ | h
    · exact .inl ⟨o, k _ _ h rfl⟩
    · exact .inr h
  exact RelD.rec (motive_1 := fun d v _ => RelD K ρ H' d v) (motive_2 := fun d v _ => RelDs K ρ H' d v) .non .bl .int .str (fun h _ r => .tup (t h) r) (fun h _ r => .fro (f h) r) .ref .nil (fun _ _ a b => .cons a b) h
theorem RelDs.read {d : List D} {v : List V} (k : ∀ a o, H a = some o → cellish o = false → H' a = some o) (h : RelDs K ρ H d v) : RelDs K ρ H' d v := by
  match d, v, h with
  | _, _, .nil => exact .nil
  | _, _, .cons a b => exact .cons (a.read k) (b.read k)
theorem RelF.read {d : List (Str × D)} {v : List (Str × V)} (k : ∀ a o, H a = some o → cellish o = false → H' a = some o) (h : RelF K ρ H d v) : RelF K ρ H' d v := by
  induction h with
  | nil => exact .nil
  | cons a _ b => exact .cons (a.read k) b
theorem RelKV.read {d : List (Key × D)} {v : List (Key × V)} (k : ∀ a o, H a = some o → cellish o = false → H' a = some o) (h : RelKV K ρ H d v) : RelKV K ρ H' d v := by
  induction h with
  | nil => exact .nil
  | cons a _ b => exact .cons (a.read k) b
/-- a list beside the store is written -/
theorem Sto.side (S : Sto K T ρ H m) {p : Addr} {xs ys : List V} (hp : H p = some (.lst xs)) (n : p ∉ ρ) : Sto K T ρ (upd H p (.lst ys)) m := by
  have k : ∀ a o, H a = some o → cellish o = false → upd H p (.lst ys) a = some o := fun a o h c => by
    rw [upd_ne]
    · exact h
    · rintro rfl
      rw [hp] at h
      cases h
      cases c
  refine ⟨S.len, S.nd, fun i c h => ?_, tabs_ext S.tabs k⟩
  obtain ⟨a, e, r⟩ := S.cell i c h
  have ne : a ≠ p := fun z => n (z ▸ List.mem_of_getElem? e)
  refine ⟨a, e, ?_⟩
  cases c with
  | lst l => obtain ⟨vs, h, r⟩ := r; exact ⟨vs, by rw [upd_ne ne]; exact h, r.read k⟩
  | ins c fs => obtain ⟨dx, vs, h, r⟩ := r; exact ⟨dx, vs, by rw [upd_ne ne]; exact h, r.read k⟩
  | dct l => obtain ⟨vs, h, r⟩ := r; exact ⟨vs, by rw [upd_ne ne]; exact h, r.read k⟩
theorem Ext.side (E : Ext ρ H ρ' H') {p : Addr} {o : HO} (np : H p = none) : Ext ρ H ρ' (upd H' p o) := ⟨E.pre, fun a u h n t => by
  rw [upd_ne (ne_of_none h np)]
  exact E.keep a u h n t, E.new⟩
end
theorem compL_ok {o : Wch} {body : D → Mem → Res (Option D)} (hb : ∀ d m c p m', body d m ≠ .exn c p m') : ∀ {ds : List D} {m : Mem}, compL o body ds m ≠ .stuck → ∃ l m', compL o body ds m = .ok l m'
  | [], m, h => by
    unfold compL at h ⊢
    split at h
    · exact ⟨[], m, by rw [if_pos (by assumption)]⟩
    · exact absurd rfl h
  | d :: ds, m, h => by
    unfold compL at h ⊢
    split at h
    · rename_i hc
      rw [if_pos hc]
      cases e : body d m with
      | stuck => rw [e] at h; exact absurd rfl h
      | exn c p m' => exact absurd e (hb _ _ _ _ _)
      | ok r m1 =>
        rw [e] at h
        simp only [Res.bind] at h ⊢
        cases e2 : compL o body ds m1 with
        | stuck => rw [e2] at h; exact absurd rfl h
        | exn c p m' =>
          exfalso
          have := compL_ok hb (ds := ds) (m := m1) (o := o) (by rw [e2]; intro z; cases z)
          obtain ⟨l, m2, z⟩ := this
          rw [e2] at z
          cases z
        | ok l m2 => exact ⟨_, _, rfl⟩
    · exact absurd rfl h
section
variable {X : Cx} {T : List (Addr × Str)} {C : Ctl} {W : WX} {c : Ctx} {Pg : Prog} {lv : Nat}
/-- nothing leaves a comprehension -/
abbrev W0 : WX := fun _ _ _ _ => False
theorem Good.blk (G : Good c C Pg lv T X W) (scope : Scope) (s : Shared) (H : Hp) (Ca : Addr) (cl : List (Str × Addr)) (fp : List Addr) :
    Good { c with sc := relS scope c.sc, blk := true, lam := false, cel := celOf scope, gen := false } C Pg lv T (X.blk s H scope (compEnvC scope cl Ca X.env) fp) W0 where
  call := G.call
  lam := fun h => by cases h
  calm := G.calm
  nd := G.nd
  hN := G.hN
  sc := by
    show relS scope X.env.scope = _
    rw [G.sc]
  room := G.room
  tk := takes_none5
  po := PassesOwn.never
  fn := fun h => by cases h
  fnB := fun x hx => by
    obtain ⟨p, hp, rfl⟩ := List.mem_map.mp hx
    have := (List.mem_filter.mp hp).2
    simp only [decide_eq_true_eq] at this
    show (scope.names.lookup p.1 == some .cell) = true
    rw [this]
    rfl
  gen := fun h => by cases h
  two := G.two
  fns := fun k hk => ⟨(G.fns k hk).fn, (G.fns k hk).np⟩
  glos := G.glos
  blt := G.blt
  told := G.told
  exm := G.exm
  exs := G.exs
theorem PTs.imp {ifs : List Expr} {t t' : TT} (h : PTs X ifs t) (i : ∀ σ H Q, t' σ H Q → t σ H Q) : PTs X ifs t' := ⟨fun pins s σ H Q I q => h.run pins s σ H Q I (i σ H Q q)⟩
theorem ok_yes : PTs X [] (tT X.K T C W (.con (.bl true))) := by
  refine PTs.imp pts_nil fun σ H Q ⟨ρ, m, env, S, R, q⟩ => ?_
  unfold evalE at q
  exact tT_done S q
/-- one turn of a comprehension, as data -/
noncomputable def compB (C : Ctl) (tg : Tg) (c e : IE) (own : List Nat) (env : EnvD) : D → Mem → Res (Option D) := fun d m2 =>
  match asgT m2 tg d (wipeE env own) with
  | some env2 => (match evalE c C env2 m2 with
    | .ok (.bl true) m3 => (match evalE e C env2 m3 with
      | .ok x m4 => .ok (some x) m4
      | _ => .stuck)
    | .ok (.bl false) m3 => .ok none m3
    | _ => .stuck)
  | none => .stuck
theorem compB_noex {tg : Tg} {cc e : IE} {own : List Nat} {env : EnvD} : ∀ d m k p m', compB C tg cc e own env d m ≠ .exn k p m' := by
  intro d m k p m' h
  unfold compB at h
  repeat' split at h
  all_goals cases h
theorem comp_tlc {scope : Scope} {tg' : Tg} {it' : II} {t' e' : IE} (hv : (tgVars tg').all (fun i => decide (i ∈ ownI c.N scope)) = true) {σ : L2.St} {H : Hp} {Q : VK} (h : tE X.K T C W (.comp tg' it' t' e' (ownI c.N scope)) σ H Q) :
    tLc (tI X.K T C W it') (gT X.K T tg') (tT X.K T C W0 t') (tE X.K T C W0 e') ((ownOf c.N scope).map (·.2)) σ H Q := by
  have hv' : ∀ i ∈ tgVars tg', i ∈ ownI c.N scope := fun i h => of_decide_eq_true (List.all_eq_true.mp hv i h)
  obtain ⟨ρ, m, env, S, R, q⟩ := h
  unfold evalE at q
  refine ⟨ρ, m, env, S, R, q.bind.imp (fun I m1 ρ1 H1 E1 S1 q1 J hJ D hD => ?_) fun _ _ _ _ _ _ _ z => z⟩
  have R1 := R.mono S E1
  have q1 : Then X.K T ρ1 H1 ((compL I.2 (compB C tg' t' e' (ownI c.N scope) env) I.1 m1).bind fun l m2 => if l.length ≤ sizeLine then .ok (.ref m2.length) (m2 ++ [.lst l]) else .stuck)
      (fun d _ ρ' H' => ∀ v, RelD X.K ρ' H' d v → Q v H') (exW X.K W σ) := q1
  let Inv (i : Nat) (Hc : Hp) : Prop := ∃ ρc mc accD accV, Ext ρ1 H1 ρc Hc ∧ Sto X.K T ρc Hc mc ∧ Hc D = some (.lst accV) ∧ RelDs X.K ρc Hc accD accV ∧ D ∉ ρc ∧
    Then X.K T ρ1 H1 ((compL I.2 (compB C tg' t' e' (ownI c.N scope) env) (I.1.drop i) mc).bind fun l m2 => if (accD ++ l).length ≤ sizeLine then .ok (.ref m2.length) (m2 ++ [.lst (accD ++ l)]) else .stuck)
      (fun d _ ρ' H' => ∀ v, RelD X.K ρ' H' d v → Q v H') (exW X.K W σ)
  refine ⟨fun i k Hc => k = I.1.length - i ∧ i ≤ I.1.length ∧ Inv i Hc, ⟨I.1.length, by simp, Nat.zero_le _, ?_⟩, ?_⟩
  · obtain ⟨E2, S2⟩ := S1.aside (o := .lst []) hD
    refine ⟨ρ1, m1, [], [], E2, S2, upd_same, .nil, fun z => ?_, by simpa using q1⟩
    obtain ⟨o, h, _⟩ := S1.at_ z
    rw [hD] at h
    cases h
  · rintro i k Hc ⟨rfl, hi, ρc, mc, accD, accV, Ec, Sc, hDc, ra, nD, qc⟩
    by_cases hlt : i < I.1.length
    · refine .inr ?_
      have hd : I.1[i]? = some I.1[i] := List.getElem?_eq_getElem hlt
      rw [List.drop_eq_getElem_cons hlt] at qc
      -- the list is there, the body's turn
      have hne := qc.ne
      obtain ⟨l, m9, el⟩ := compL_ok (compB_noex (C := C) (tg := tg') (cc := t') (e := e') (own := ownI c.N scope) (env := env)) (o := I.2) (ds := I.1[i] :: I.1.drop (i + 1)) (m := mc) (fun z => hne (by rw [z] <;> rfl))
      have el0 := el
      unfold compL at el
      split at el
      case isFalse => cases el
      rename_i hc
      obtain ⟨hgo, hyld⟩ := (hJ i ρc Hc mc Ec Sc hc).1 _ hd
      refine ⟨hgo, fun H' => I.1.length - (i + 1) = I.1.length - (i + 1) ∧ i + 1 ≤ I.1.length ∧ Inv (i + 1) H', fun H' z => ⟨I.1.length - (i + 1), by omega, z⟩, fun x H2 y => ?_⟩
      obtain ⟨E2, S2, rx⟩ := hyld x H2 y
      have hD2 : H2 D = some (.lst accV) := E2.keep D _ hDc nD fun _ z => nomatch z
      cases eb : compB C tg' t' e' (ownI c.N scope) env I.1[i] mc with
      | stuck => rw [eb] at el; cases el
      | exn _ _ _ => exact absurd eb (compB_noex _ _ _ _ _)
      | ok r m3 =>
      rw [eb] at el
      simp only [Res.bind] at el
      have eb0 := eb
      unfold compB at eb
      split at eb
      case h_2 => cases eb
      rename_i env2 ea
      have E12 := Ec.trans E2
      refine ⟨ρc, mc, wipeE env (ownI c.N scope), I.1[i], env2, S2, (R1.mono S1 E12).wipe _, rx, ea, fun σ2 R2 b2 => ?_⟩
      have hw : L2.wipe σ2 (ownI c.N scope) = L2.wipe σ (ownI c.N scope) := (b2.sub hv').wipe.trans (wipe_wipe (vs := ownI c.N scope) (σ := σ))
      refine ⟨hw, ρc, mc, env2, S2, R2, ?_⟩
      -- what is left behind this turn
      have next : ∀ (accD' : List Dat.D) (accV' : List V) (ρ4 : List Addr) (H4 : Hp), Ext ρ1 H1 ρ4 H4 → Sto X.K T ρ4 H4 m3 → H4 D = some (.lst accV') → RelDs X.K ρ4 H4 accD' accV' → D ∉ ρ4 →
          (∀ l', accD ++ optC r l' = accD' ++ l') → I.1.length - (i + 1) = I.1.length - (i + 1) ∧ i + 1 ≤ I.1.length ∧ Inv (i + 1) H4 := fun accD' accV' ρ4 H4 E4 S4 h4 r4 n4 hl => by
        refine ⟨rfl, hlt, ρ4, m3, accD', accV', E4, S4, h4, r4, n4, ?_⟩
        have e5 : compL I.2 (compB C tg' t' e' (ownI c.N scope) env) (I.1[i] :: I.1.drop (i + 1)) mc = (compL I.2 (compB C tg' t' e' (ownI c.N scope) env) (I.1.drop (i + 1)) m3).bind fun l' m2 => .ok (optC r l') m2 := by
          rw [compL, if_pos hc, eb0]
          rfl
        rw [e5] at qc
        cases e6 : compL I.2 (compB C tg' t' e' (ownI c.N scope) env) (I.1.drop (i + 1)) m3 with
        | stuck => rw [e6] at qc; exact (show False from qc).elim
        | exn a b c => rw [e6] at qc; exact qc
        | ok l' m2 =>
          rw [e6] at qc
          simp only [Res.bind] at qc ⊢
          rw [hl l'] at qc
          exact qc
      have small : ∀ x, r = some x → accD.length < sizeLine := fun x hr => by
        subst hr
        have h9 := qc
        rw [el0] at h9
        simp only [Res.bind] at h9
        split at h9
        · rename_i hz
          have : ∃ l', l = x :: l' := by
            cases e6 : compL I.2 (compB C tg' t' e' (ownI c.N scope) env) (I.1.drop (i + 1)) m3 with
            | stuck => rw [e6] at el; cases el
            | exn a b c => rw [e6] at el; cases el
            | ok l' m2 =>
              rw [e6] at el
              cases el
              exact ⟨l', rfl⟩
          obtain ⟨l', rfl⟩ := this
          simp at hz
          omega
        · exact (show False from h9).elim
      cases et : evalE t' C env2 mc with
      | stuck => rw [et] at eb; cases eb
      | exn _ _ _ => rw [et] at eb; cases eb
      | ok dt mt =>
      rw [et] at eb
      intro ρ3 H3 E3 S3
      cases dt with
      | bl b =>
        refine ⟨b, rfl, ?_⟩
        have hD3 : H3 D = some (.lst accV) := E3.keep D _ hD2 nD fun _ z => nomatch z
        have nD3 : D ∉ ρ3 := fun z => by
          obtain ⟨_, e⟩ := E3.new D z nD _ hD2
          cases e
        cases b with
        | false =>
          cases eb
          exact next accD accV ρ3 H3 (E12.trans E3) S3 hD3 ((ra.mono Sc E2).mono S2 E3) nD3 fun _ => rfl
        | true =>
          simp only at eb
          refine ⟨ρ3, mt, env2, S3, R2.mono S2 E3, ?_⟩
          cases ee : evalE e' C env2 mt with
          | stuck => rw [ee] at eb; cases eb
          | exn _ _ _ => rw [ee] at eb; cases eb
          | ok x mx =>
            rw [ee] at eb
            cases eb
            intro ρ4 H4 E4 S4 v rv
            have hD4 : H4 D = some (.lst accV) := E4.keep D _ hD3 nD3 fun _ z => nomatch z
            have nD4 : D ∉ ρ4 := fun z => by
              obtain ⟨_, e⟩ := E4.new D z nD3 _ hD3
              cases e
            have ra4 := ((ra.mono Sc E2).mono S2 E3).mono S3 E4
            have kk : ∀ a o, H4 a = some o → cellish o = false → upd H4 D (.lst (accV ++ [v])) a = some o := fun a o h cc => by
              rw [upd_ne]
              · exact h
              · rintro rfl
                rw [hD4] at h
                cases h
                cases cc
            refine ⟨accV, hD4, by rw [← ra4.length]; exact small x rfl, ?_⟩
            exact next (accD ++ [x]) (accV ++ [v]) ρ4 _ (((E12.trans E3).trans E4).side hD) (S4.side hD4 nD4) upd_same ((ra4.append (.cons rv .nil)).read kk) nD4 fun l' => by simp [optC]
      | _ => cases eb
    · refine .inl ?_
      have e0 : i = I.1.length := by omega
      subst e0
      rw [List.drop_length] at qc
      unfold compL at qc
      split at qc
      · rename_i hc
        refine ⟨(hJ _ ρc Hc mc Ec Sc hc).2 (Nat.le_refl _), ?_⟩
        simp only [Res.bind, List.append_nil] at qc
        split at qc
        · have E9 : Ext ρ1 H1 (ρc ++ [D]) Hc := ⟨Ec.pre.trans (List.prefix_append _ _), Ec.keep, fun a h n => by
            rcases List.mem_append.mp h with h | h
            · exact Ec.new a h n
            · rw [List.mem_singleton.mp h, hD]; exact fun o h => nomatch h⟩
          refine qc _ _ E9 (Sc.adopt nD ⟨accV, hDc, ra⟩) _ (.ref ?_)
          rw [← Sc.len]
          simp
        · exact (show False from qc).elim
      · exact (show False from qc).elim
theorem ok_comp {tg it elt : Expr} {ifs : List Expr} {scope : Scope} {pos : Pos} {tg' : Tg} {it' : II} {t' e' : IE} (G : Good c C Pg lv T X W) (hb : blkC c.N c.sc scope (ownOf c.N scope) = true) (pit : plainE it = true)
    (hi : OkI X T C W tg it it')
    (hg : ∀ (s : Shared) (H : Hp) (Ca : Addr) (cl : List (Str × Addr)) (fp : List Addr), PG (X.blk s H scope (compEnvC scope cl Ca X.env) fp) tg (gT X.K T tg'))
    (ht : ∀ (s : Shared) (H : Hp) (Ca : Addr) (cl : List (Str × Addr)) (fp : List Addr), PTs (X.blk s H scope (compEnvC scope cl Ca X.env) fp) ifs (tT X.K T C W0 t'))
    (he : ∀ (s : Shared) (H : Hp) (Ca : Addr) (cl : List (Str × Addr)) (fp : List Addr), PE (X.blk s H scope (compEnvC scope cl Ca X.env) fp) elt (tE X.K T C W0 e'))
    (hv : (tgVars tg').all (fun i => decide (i ∈ ownI c.N scope)) = true) :
    OkE X T C W (.ListComp elt [⟨tg, it, ifs, 0⟩] scope pos) (.comp tg' it' t' e' (ownI c.N scope)) := by
  have ok : BlkOk X.N X.env.scope scope (ownOf c.N scope) := by
    rw [G.hN, G.sc]
    exact blkOk_by hb
  have hv' : ∀ i ∈ tgVars tg', i ∈ ownI c.N scope := fun i h => of_decide_eq_true (List.all_eq_true.mp hv i h)
  have ok : BlkOk X.N X.env.scope scope (ownOf c.N scope) := by
    rw [G.hN, G.sc]
    exact blkOk_by hb
  exact PE.imp (pe_lc (own := ownOf c.N scope) G.calm G.nd hi ok hg ht he (noFold pit _)) fun σ H Q h => comp_tlc hv h
end
end Dat

/-! Dat12 -/
set_option linter.all false
set_option maxRecDepth 100000
set_option maxHeartbeats 1000000
/-! Dat12: told(lambda: ..). -/
namespace Dat
open PySem PySem.Spec L2 PyProof.Rows LamX

def wishN (K : PySem.W.Frag) (Q : VK) : List (Str × Str) → Value → Hp → Prop
  | [] => fun _ _ => False
  | q :: r => fun cls H' => ∃ b, PySem.W.exmOne K cls (.ref (He.ga K q.1)) = some b ∧ (b = true → Q (.str q.2) H') ∧ (b = false → wishN K Q r cls H')
def TTn (K : PySem.W.Frag) (cl : List (Str × Str)) : (XK → Hp → VK → Prop) → Hp → VK → Prop := fun tl H Q => tl (fun cls _ H' => wishN K Q cl cls H') H Q
def hdL (K : PySem.W.Frag) (cl : List (Str × Str)) : List (Value × (Addr → Value → Option Addr → TS)) := cl.map fun q => (.ref (He.ga K q.1), fun _ _ _ => tRet (tC (.str q.2)))
theorem hds_ok {Y : Cx} {K : PySem.W.Frag} {mg : Str → Option Value} {sg : Scope} (hK : Y.K = K) (hmg : Y.mg = mg) (hsc : Y.env.scope = sg) : ∀ {hs : List ExceptHandler} {cl : List (Str × Str)}, HdM K mg sg hs cl → HdsOk Y hs (hdL K cl)
  | _, _, .nil => .nil
  | _, _, .cons hg hd hm r => by
    refine .cons ⟨?_, hd, .inl (by rw [hmg]; exact hm)⟩ (fun a oe cls d pn _ _ => pss_one (ps_ret pe_str)) (hds_ok hK hmg hsc r)
    show Y.env.scope.names.lookup _ = _
    rw [hsc]
    exact hg
theorem wish_many {K : PySem.W.Frag} {D : Ends} {σ : L2.St} {d : Option Addr} : ∀ {cl : List (Str × Str)} {cls : Value} {H : Hp}, wishN K D.rt cl cls H → wMany K (fun _ _ _ _ => False) D (hdL K cl) cls d σ H
  | [], _, _, h => h
  | q :: r, cls, H, h => by
    obtain ⟨b, e, h1, h2⟩ := h
    exact ⟨b, e, fun hb a _ => h1 hb, fun hb => wish_many (h2 hb)⟩
section
variable {X : Cx} {T : List (Addr × Str)} {C : Ctl} {W : WX} {c : Ctx} {Pg : Prog} {lv : Nat}
theorem told_givesN {Ng : List Str} {x a q : Str} {sg : Scope} {g : Addr} {cdg : Value} {cl : List (Str × Str)} {h₀ : ExceptHandler} {hs : List ExceptHandler} {p1 p2 p3 p8 : Pos} (hm : HdM X.K X.mg sg (h₀ :: hs) cl)
    (h0 : ∀ f : Addr, (L2.start Ng [V.ref f])[0]? = some (some (V.ref f))) :
    GivesTo X Ng x sg g cdg [.Try [.Return (some (.Call (.Name a p1) [] [] p2)) p3] (h₀ :: hs) [] [] p8] a q (TTn X.K cl) := by
  intro f c' s H Q tl act hc h
  refine ⟨_, pss_one (ps_try_many (X := (cxOf C8.CX0 X.prog X.w X.K X.mg X.base Ng x sg g cdg X.A X.stack s H C8.E0).nox)
      (tb := fun W D σ H => ∃ Ech : XK, (∀ cls d σ' H', Ech cls d H' → W cls d σ' H') ∧ σ[0]? = some (some (.ref f)) ∧ H c' = some (CodeO c' q) ∧ tl Ech H D.rt)
      rfl rfl takes_none5 (fun W pn xe tk _ => ?_) (hds_ok (Y := (cxOf C8.CX0 X.prog X.w X.K X.mg X.base Ng x sg g cdg X.A X.stack s H C8.E0).nox) (K := X.K) (mg := X.mg) (sg := sg) rfl rfl rfl hm)), ?_⟩
  · refine ⟨fun pins s' σ H' D I h' => ?_⟩
    obtain ⟨Ech, hW, h1, h2, h3⟩ := h'
    have hp := act W pn xe Ech p1 p2 tk hW
    have hq := pss_one (ps_ret (pos := p3) hp)
    exact hq.run pins s' σ H' D I ⟨h1, h2, h3⟩
  · exact ⟨fun cls _ H' => wishN X.K Q cl cls H', fun cls d σ' H' z => wish_many (D := { nx := fun _ H' => Q .non H', rt := Q }) z, h0 f, hc, h⟩
theorem toldM_wish {K : PySem.W.Frag} {sub : Str → Str → Option Bool} {Q : VK} {H : Hp} {cc s : Str} (ex : ∀ c c' b, sub c c' = some b → PySem.W.exmOne K (.ref (He.ga K c)) (.ref (He.ga K c')) = some b) :
    ∀ {cl : List (Str × Str)}, toldM sub cc cl = some s → Q (.str s) H → wishN K Q cl (.ref (He.ga K cc)) H
  | [], h, _ => by cases h
  | q :: r, h, hq => by
    unfold toldM at h
    split at h
    · rename_i e
      cases h
      exact ⟨true, ex _ _ _ e, fun _ => hq, fun z => absurd z (by decide)⟩
    · rename_i e
      exact ⟨false, ex _ _ _ e, fun z => absurd z (by decide), fun _ => toldM_wish ex h hq⟩
    · cases h
theorem Good.lamG (G : Good c C Pg lv T X W) {k : Nat} (hk : k = lv - 2) (L : LamOk c C Pg lv T X) {scope : Scope} {A : Around} {outer : List Env} {s : Shared} {H : Hp} {E : XK} {f c' : Addr}
    (hr : Room k (A.deeper (lamEnv X scope s.heap.objs.size f c'))) : Good { c with sc := scope, blk := true, lam := false, told := [], cel := [], gen := false } C.inner Pg k T (lamCx X A outer s H E scope f c') (fun cls d _ H => E cls d H) where
  call := by
    show C.call2 = _
    rw [L.call2, hk]
  lam := fun h => by cases h
  calm := rfl
  nd := G.nd
  hN := G.hN
  sc := rfl
  room := hr
  tk := takes_of rfl rfl rfl rfl
  po := passes_of rfl
  fn := fun h => by cases h
  fnB := fun x hx => absurd hx (by simp)
  gen := fun h => by cases h
  two := fun i cl h => by cases h
  fns := fun j hj => ⟨(G.fns j (by omega)).fn, (G.fns j (by omega)).np⟩
  glos := G.glos
  blt := G.blt
  told := fun i cl h => by cases h
  exm := G.exm
  exs := G.exs
theorem gc_then {K : PySem.W.Frag} {ρ : List Addr} {H : Hp} {m m' : Mem} {d : D} {v : V} {Q : VK} {ρ' : List Addr} {H' : Hp} {ex : Str → Option D → Mem → List Addr → Hp → Prop} (S : Sto K T ρ H m) (h : Then K T ρ H ((Res.ok d m').gc m.length) (fun d _ ρ' H' => ∀ v, RelD K ρ' H' d v → Q v H') ex)
    (E : Ext ρ H ρ' H') (S' : Sto K T ρ' H' m') (r : RelD K ρ' H' d v) : Q v H' := by
  obtain ⟨ρ2, E2, S2, r2⟩ := gc_ok E S' S.len r
  exact h ρ2 H' E2 S2 v r2
theorem ok_told {f : Str} {ps : Arguments} {body : Expr} {e' : IE} {scope : Scope} {i : Nat} {q : Str × List Str} {p lpos pos : Pos} (G : Good c C Pg lv T X W) (hl : c.lam = true) (hg : c.isGl f = true) (hi : c.fns[i]? = some q) (hq : q.1 = f) {cl : List (Str × Str)} (ht : C.told.lookup i = some cl)
    (hp : plainLam ps = true) (hs : lamSB c.sc scope = true)
    (hb : ∀ (A : Around) (outer : List Env) (s : Shared) (H : Hp) (E : XK) (f c' : Addr), Room (lv - 2) (A.deeper (lamEnv X scope s.heap.objs.size f c')) → PE (lamCx X A outer s H E scope f c') body (tE X.K T C.inner (fun cls d _ H => E cls d H) e')) :
    OkE X T C W (.Call (.Name f p) [.Lambda ps body scope lpos] [] pos) (.told i e') := by
  have two := G.two i cl ht
  have L := G.lam hl
  obtain ⟨cc, PP, hcode, TB, hmT, hu⟩ := L.code
  obtain ⟨x, a, g, pg, bg, sg, Ng, dV, kV, doc, pm, cdv, ct, oc, od, an, osl, h₀, hs', p1, p2, p3, p8, k1, k2, k3, k4, k5, k6, k7, k8, k9, k9a, k9b, k10, k11⟩ := G.told i cl ht
  rw [hi] at k1
  cases k1
  have hx : x = f := hq
  subst hx
  have L2' : LamS X.env.scope scope := by
    rw [G.sc]
    exact lamS_by hs
  have hr2 : Room (lv - 2 + 2) X.A := by
    have e : lv - 2 + 2 = lv := by omega
    rw [e]
    exact G.room
  have hdef : defaultsOf ps X.env = ([], []) := by
    obtain ⟨_ | _, _ | _, _ | _, _ | _, _ | _, _ | _, _ | _⟩ := ps <;> first | rfl | cases hp
  have hbind : ∀ (q : Str) (cl : List (Str × Addr)) (pm cv ctv : Value), bindArgs (PySem.W.kla_fn "<lambda>" q ps body scope cl pm cv ctv) ⟨[], []⟩ = pure [] := by
    obtain ⟨_ | _, _ | _, _ | _, _ | _, _ | _, _ | _, _ | _⟩ := ps <;> first | (intros; rfl) | cases hp
  subst k10
  refine PE.imp (pe_lamcall (T := T) (TT := TTn X.K cl) (t := fun E => tE X.K T C.inner (fun cls d _ H => E cls d H) e') (k := lv - 2) (G.gl hg) k2 k3 k4 k5 k6 k7 k8 k9
    (told_givesN k11 (fun f => by simp [L2.start])) TB hcode hmT hu hr2 L2' hdef hbind hb (isGl_of hg).2.1 k9a k9b) fun σ H Q ⟨ρ, m, env, S, R, q⟩ => ?_
  refine ⟨S.tabs, fun H1 eN T1 => ?_⟩
  have kk : ∀ a o, H a = some o → (∀ ps, o ≠ .tbl ps) → H1 a = some o := fun a o h n => eN a o h n
  have E1 : Ext ρ H ρ H1 := ⟨List.prefix_refl _, fun a o h _ n => kk a o h n, fun _ h n => absurd h n⟩
  have S1 : Sto X.K T ρ H1 m := ⟨S.len, S.nd, fun i c h => by
    obtain ⟨a, e, r⟩ := S.cell i c h
    obtain ⟨u, hu, cu⟩ := r.ish
    exact ⟨a, e, r.mono S E1 ((kk a u hu (fun ps z => by rw [z] at cu; cases cu)).trans hu.symm)⟩, T1⟩
  unfold evalE at q
  rw [ht] at q
  simp only at q
  refine ⟨ρ, m, env, S1, R.mono S E1, ?_⟩
  cases er : evalE e' C.inner env m with
  | stuck => rw [er] at q; exact q
  | ok d m1 =>
    rw [er] at q
    exact fun ρ' H' E' S' v r => gc_then S q (E1.trans E') S' r
  | exn k pl m1 =>
    rw [er] at q
    simp only at q
    split at q
    · rename_i s es
      exact fun ρ' H' E' S' dd _ => toldM_wish G.exm es (gc_then (v := .str s) S q (E1.trans E') S' (.str s))
    · exact (show False from q).elim
end
end Dat

/-! LamV -/
set_option linter.all false
set_option maxRecDepth 100000
set_option maxHeartbeats 2000000
/-! LamV: a lambda as a value: made, tracked, later handed to a def that calls it. -/
namespace Dat
open PySem PySem.Spec L2 PyProof.Rows LamX
/-- the object at f is this lambda -/
def LamO (f : Addr) (q : Str) (params : Arguments) (body : Expr) (scope : Scope) (cl : List (Str × Addr)) (c' : Addr) : HO := .ext fun h => ∃ pm ctv, h.get? f = some (PySem.W.kla_obj "<lambda>" q params body scope cl pm c' ctv)
theorem lamO_at {P : Program} {w : World} {H : Hp} {h : Heap} {f c' : Addr} {q : Str} {params : Arguments} {body : Expr} {scope : Scope} {cl : List (Str × Addr)} (hok : HOk P w H h) (e : H f = some (LamO f q params body scope cl c')) : ∃ pm ctv, h.get? f = some (PySem.W.kla_obj "<lambda>" q params body scope cl pm c' ctv) := by
  obtain ⟨z, _⟩ := hok f _ e
  exact z
theorem lamO_nt {f c' : Addr} {q : Str} {params : Arguments} {body : Expr} {scope : Scope} {cl : List (Str × Addr)} : ∀ ps, LamO f q params body scope cl c' ≠ .tbl ps := fun ps z => by
  unfold LamO at z
  cases z
section
variable {X : Cx} {pins : List (Addr × Obj)} {σ : L2.St} {H : Hp} {s : Shared}
theorem inv_lam {q : Str} {params : Arguments} {body : Expr} {scope : Scope} {cl : List (Str × Addr)} {c' : Addr} {pm ctv : Value} {t' : Nat} (I : Inv X pins σ H s) :
    Inv X pins σ (upd H s.heap.objs.size (LamO s.heap.objs.size q params body scope cl c')) { s with heap := s.heap.push (PySem.W.kla_obj "<lambda>" q params body scope cl pm c' ctv), toks := t' } := by
  have at_ : (s.heap.push (PySem.W.kla_obj "<lambda>" q params body scope cl pm c' ctv)).get? s.heap.objs.size = some (PySem.W.kla_obj "<lambda>" q params body scope cl pm c' ctv) := Heap.get?_push_size _ rfl
  exact I.laid (fun b u e => Heap.get?_push_of_some _ e) (Nat.le_refl _) ⟨⟨pm, ctv, at_⟩, ⟨_, at_⟩, fun h1 h2 ⟨p, c, z⟩ st => ⟨p, c, st _ z⟩⟩
/-- a lambda's making; its object is tracked -/
def tLamV (T : List (Addr × Str)) (q : Str) (params : Arguments) (body : Expr) (scope : Scope) (cl : List (Str × Addr)) : TE := fun _ H Q => Tabs T H ∧ ∀ (f c' : Addr) (H1 : Hp), ExtN H H1 → (∀ b, H1 b = none → H b = none) → Tabs T H1 → H f = none → H1 f = some (LamO f q params body scope cl c') → H1 c' = some (CodeO c' q) → Q (.ref f) H1
theorem pe_lamV {T : List (Addr × Str)} {c P : Addr} {params : Arguments} {body : Expr} {scope : Scope} {pos : Pos} (TB : TabB X.base X.mg c P) (hcode : X.env.code = .ref c) (hm : (P, X.env.qual ++ "<lambda>") ∈ T) (hu : ∀ p ∈ T, p.1 = P → p.2 = X.env.qual ++ "<lambda>") (hdef : defaultsOf params X.env = ([], [])) (L : LamS X.env.scope scope) :
    PE X (.Lambda params body scope pos) (tLamV T (X.env.qual ++ "<lambda>") params body scope (cloFrom X.env.cells scope.names [])) := by
  refine ⟨fun pins s σ H Q I ⟨hT, hQ⟩ => ?_⟩
  have hfree := L.has I.ok
  obtain ⟨tab, hP, htri, hat⟩ := hT _ hm
  have bP : s.heap.BuiltinsAt X.mg P := TB.bm.keeps I.bk
  have rawP : s.heap.get? P = some { cls := .none, data := .fields tab } := I.hok P _ hP
  refine PySem.W.kla_eval hdef ?_
  have endV : ∀ {H1 : Hp} {h1 : Heap} {tk tk1 : Nat} {c' : Addr} {ctv : Value}, Inv X pins σ H1 { s with heap := h1, toks := tk1 } → ExtN H H1 → (∀ b, H1 b = none → H b = none) → Tabs T H1 → H1 c' = some (CodeO c' (X.env.qual ++ "<lambda>")) → H h1.objs.size = none →
      EP X pins σ Q (.ref h1.objs.size) { s with heap := h1.push (PySem.W.kla_obj "<lambda>" (X.env.qual ++ "<lambda>") params body scope (cloFrom X.env.cells scope.names []) ((X.mg "__name__").getD .none) c' ctv), toks := tk } := fun {H1 h1 tk tk1 c' ctv} J eN nn T1 hc hf => by
    have fr : H1 h1.objs.size = none := J.hok.fresh (Nat.le_refl _)
    refine ⟨.ref h1.objs.size, _, inv_lam (t' := tk) J, rfl, hQ _ c' _ (fun b o e n => ?_) (fun b e => nn b ?_) (T1.ext fun b o e => ?_) hf upd_same ?_⟩
    · exact (upd_ne (ne_of_none (eN b o e n) fr)).trans (eN b o e n)
    · by_cases hb : b = h1.objs.size
      · rw [hb]; exact fr
      · rw [← e]; exact (upd_ne hb).symm
    · exact (upd_ne (ne_of_none e fr)).trans e
    · exact (upd_ne (ne_of_none hc fr)).trans hc
  cases hc : codeAmong pos tab.toList with
  | some cv =>
    obtain ⟨c', rfl, hco⟩ := hat pos cv hc
    refine PySem.W.kla_makeFunctionHit (mg := X.mg) (c := c) (P := P) (ps := tab) (closure_ok hfree) I.ok.glob (I.mod.glob.keeps I.bk) hcode (TB.code.keeps I.bk) rawP htri hc bP fun ctv h' tk hx hsz => ?_
    exact endV (tk1 := tk) (I.kept hx) (ExtN.refl H) (fun _ e => e) hT hco (I.hok.fresh hsz)
  | none =>
    refine PySem.W.kla_makeFunction (mg := X.mg) (c := c) (P := P) (ps := tab) (closure_ok hfree) I.ok.glob (I.mod.glob.keeps I.bk) hcode (TB.code.keeps I.bk) rawP htri hc TB.gP bP fun c' ctv h' tk hx hge hlt hrec htb => ?_
    obtain ⟨c2, oc, vs, t, e2, hoc, hd, hv⟩ := hrec
    cases e2
    have nC : H c' = none := I.hok.fresh hge
    have J := inv_table (t' := tk) (more := #[rawInt pos.line, rawInt pos.col, .ref c']) (h' := h') I hP (fun b o hb e => hx b o hb e) htb hge ⟨oc, vs, t, hoc, hd, hv⟩
    have eN : ExtN H (upd (upd H P (.tbl (tab ++ #[rawInt pos.line, rawInt pos.col, .ref c']))) c' (CodeO c' (X.env.qual ++ "<lambda>"))) := fun b o e n => by
      have n1 : b ≠ P := fun z => n tab (Option.some.inj (e.symm.trans (by rw [z]; exact hP)))
      rw [upd_ne (ne_of_none e nC), upd_ne n1]
      exact e
    refine endV (tk1 := tk) J eN (fun b e => NdefX.upd_none (NdefX.upd_none e)) (fun p hp => ?_) upd_same (I.hok.fresh (Nat.le_trans hge (Nat.le_of_lt hlt)))
    by_cases hb : p.1 = P
    · have eL : (tab ++ #[rawInt pos.line, rawInt pos.col, .ref c']).toList = tab.toList ++ [rawInt pos.line, rawInt pos.col, .ref c'] := by simp
      rw [hu p hp hb, hb]
      refine ⟨_, by rw [upd_ne (ne_of_none hP nC), upd_same], by rw [eL]; exact PySem.TriplesOk_snoc _ _ _ _ htri, fun p' cv hcv => ?_⟩
      rw [eL] at hcv
      rcases among_app _ htri hcv with z | z
      · obtain ⟨c0, e1, e2⟩ := hat p' cv z
        exact ⟨c0, e1, eN _ _ e2 codeO_ne⟩
      · exact ⟨c', z, upd_same⟩
    · obtain ⟨ps', a1, a2, a3⟩ := hT p hp
      refine ⟨ps', by rw [upd_ne (ne_of_none a1 nC), upd_ne hb]; exact a1, a2, fun p' cv hcv => ?_⟩
      obtain ⟨c0, e1, e2⟩ := a3 p' cv hcv
      exact ⟨c0, e1, eN _ _ e2 codeO_ne⟩
/-- the call of a lambda's value, in the def that got it: Z is that def's context, entered at s -/
theorem pe_actV {CXg : CXT} {Eg : XK} {Ng : List Str} {qg : Str} {sg : Scope} {g f c' : Addr} {cdg : Value} {params : Arguments} {body : Expr} {scope : Scope} {k i : Nat} {a : Str} {pn : List (Addr × Obj)} {xe : Value → Shared → Prop} {W : WX} {t : XK → TE} {p1 p2 : Pos}
    (I : Inv X pins σ H s) (L : LamS X.env.scope scope)
    (hbind : ∀ (pm ctv : Value), bindArgs (PySem.W.kla_fn "<lambda>" (X.env.qual ++ "<lambda>") params body scope (cloFrom X.env.cells scope.names []) pm (.ref c') ctv) ⟨[], []⟩ = pure [])
    (tk : Takes ((cxOf CXg X.prog X.w X.K X.mg X.base Ng qg sg g cdg X.A X.stack s H Eg).tr pn xe) W) (hr : Room (k + 1) (X.A.deeper (envOfC qg sg s.heap.objs.size g cdg)))
    (hbody : ∀ (A : Around) (outer : List Env) (s : Shared) (H : Hp) (E : XK), Room k (A.deeper (lamEnv X scope s.heap.objs.size f c')) → PE (lamCx X A outer s H E scope f c') body (t E))
    (hN : Ng[i]? = some a) (hv : Vis sg a) (hd : (a == ("__debug__" : Str)) = false := by decide) (hcd : (a == ("__classdict__" : Str)) = false := by decide) :
    PE ((cxOf CXg X.prog X.w X.K X.mg X.base Ng qg sg g cdg X.A X.stack s H Eg).tr pn xe) (.Call (.Name a p1) [] [] p2)
      (fun σZ HZ Q => σZ[i]? = some (some (.ref f)) ∧ HZ f = some (LamO f (X.env.qual ++ "<lambda>") params body scope (cloFrom X.env.cells scope.names []) c') ∧ HZ c' = some (CodeO c' (X.env.qual ++ "<lambda>")) ∧ ∃ E : XK, (∀ cls d H', E cls d H' → W cls d σZ H') ∧ t E σ HZ Q) := by
  refine ⟨fun pinsZ sZ σZ HZ Q IZ ⟨hs, hl, hc, E, hE, ht⟩ => ?_⟩
  have ev := (pe_var (X := (cxOf CXg X.prog X.w X.K X.mg X.base Ng qg sg g cdg X.A X.stack s H Eg).tr pn xe) (pos := p1) (i := i) hN hv hd hcd).run pinsZ sZ σZ HZ (fun v H1 => v = .ref f ∧ H1 = HZ) IZ ⟨.ref f, hs, rfl, rfl⟩
  refine wpAny_Call_Name_kw (thn ev fun u s1 ⟨v, H1, I1, r1, e1, e2⟩ => ?_)
  subst e1 e2
  obtain rfl : u = Value.ref f := r1
  obtain ⟨pm, ctv, of1⟩ := lamO_at I1.hok hl
  refine PySem.W.callWith_F0 ⟨_, _, _, _, of1⟩ ?_
  have un : Un (frs X.stack) [] H H1 s.heap s1.heap := I1.base
  have hrec := NdefX.codeO_at I1.hok hc
  have rc : codeAny (model X.prog X.w) (X.A.deeper (envOfC qg sg s.heap.objs.size g cdg)) (.call (.ref f) ⟨[], []⟩) (CR (L2.CX X.prog X.w) (envOfC qg sg s.heap.objs.size g cdg :: X.stack) X.prog X.w H1 s1 Q E) s1 := by
    refine PySem.W.kla_callFunE hr.depth of1 rfl L.co L.gen rfl hrec ?_
    rw [hbind]
    refine wpAny_pure (wpAny_newFunctionEnv (fun y hy => (L.own y hy).2) (fun y hy => absurd hy (by simp)) (fun h₁ hns hsb => ⟨I1.nolimit.fresh _ hsb, ?_⟩) L.kind)
    show codeAny _ _ (.expr body (lamEnv X scope s1.heap.objs.size f c')) _ _
    have kp : ∀ b o, s1.heap.get? b = some o → h₁.get? b = some o := fun b o e => hsb.extBut b o (Nat.ne_of_lt (Heap.lt_size e)) (Heap.get?_push_of_some _ e)
    have J : Inv (lamCx X (X.A.deeper (envOfC qg sg s.heap.objs.size g cdg)) (envOfC qg sg s.heap.objs.size g cdg :: X.stack) s1 H1 E scope f c') [] σ H1 { s1 with heap := h₁, toks := s1.toks + ([] : List (Str × Value)).length } := lam_start2 I L I1.env0 hr.hd un hns kp
    refine PySem.W.kla_codeExpr (thn ((hbody _ _ s1 H1 E (hr.deeper _)).run [] _ _ H1 Q J ht) fun v s' ⟨w', H', J', rv, q⟩ => ?_)
    exact ⟨w', H', J'.os, J'.bare, J'.base, J'.hok, rv, q⟩
  have hx : PassesAt (L2.CX X.prog X.w) ((cxOf CXg X.prog X.w X.K X.mg X.base Ng qg sg g cdg X.A X.stack s H Eg).tr pn xe) σZ E := fun _ _ _ e s' J c => tk e s' (XE.of_call J (fun cls d H' z => hE cls d H' z) c)
  refine wpAny_call (codeAny_mono rc fun r s' hq => ?_)
  cases r with
  | error e => exact hx pinsZ H1 s1 e s' I1 hq
  | ok fl =>
    cases fl with
    | ret u => exact I1.after hq
    | next => exact False.elim hq
    | brk => exact False.elim hq
    | cont => exact False.elim hq
end
end Dat

/-! DatGx -/
set_option Elab.async false
set_option linter.all false
set_option maxRecDepth 100000
set_option maxHeartbeats 2000000
/-! DatGx: any(not isinstance(x, int) for x in t), t a tuple of ints. -/
namespace GxT
open PySem PySem.Spec PyProof.Rows L2 GxR LamX
/-- not isinstance(x, int), x an int -/
theorem elt_notint {prog : Program} {w : World} {K : PySem.W.Frag} {cenv : Env} {A' : Around} {E' : Value → Shared → Prop} {x : Str} {i : Int} {t : Tok} {s : Shared} {m mg mb : Str → Option Value} {p1 p2 p3 p4 p5 : Pos}
    (hk : cenv.scope.kind = .function) (hx : cenv.kindOf x = some .local) (h1 : cenv.kindOf "isinstance" = some .globalImplicit) (h2 : cenv.kindOf "int" = some .globalImplicit)
    (G : s.heap.Ns cenv.globals mg) (g1 : mg "isinstance" = none) (g2 : mg "int" = none) (B : s.heap.Ns cenv.builtins mb) (b1 : mb "isinstance" = some (.builtin "isinstance")) (b2 : mb "int" = some (.type "int"))
    (KI : K.In s.heap) (hn : s.heap.Ns cenv.locals m) (hm : m x = some (.int i t)) (hd : (x == ("__debug__" : Str)) = false) :
    wpAny (model prog w) A' (eval (.UnaryOp .Not (.Call (.Name "isinstance" p1) [.Name x p2, .Name "int" p3] [] p4) p5) cenv) (fun y s₃ => y = .bool false ∧ Keeps s s₃) E' s := by
  refine wpAny_UnaryOp ?_
  refine wpAny_Call_Name_kw (Calls.Name_function_global hk h1 (Calls.loadGlobal_builtin G g1 B b1 ?_))
  refine PyProof.Rows.callWith_builtin1 ?_
  show wpAny _ _ (spliced [(false, eval (.Name x p2) cenv), (false, eval (.Name "int" p3) cenv)]) _ _ s
  refine Calls.spliced_cons (wpAny_Name (wpAny_loadName_local hk hx hn hm ?_) hd)
  refine Calls.spliced_cons (Calls.Name_function_global hk h2 (Calls.loadGlobal_builtin G g2 B b2 ?_))
  refine Calls.spliced_nil ?_
  refine PySem.W.kia_one (b := true) PySem.W.kitx_int KI True.intro (by rfl) (fun z => nomatch z) fun tk => ?_
  refine PyProof.Rows.not_of (wpAny_truthy_bool ?_)
  exact ⟨rfl, keeps_tok s tk⟩
section
variable {X : Cx} {pins : List (Addr × Obj)} {σ : L2.St} {H : Hp} {s : Shared}
/-- a generator over n items that is ready to be walked; each of its values is False -/
def ReadyF (X : Cx) (pins : List (Addr × Obj)) (σ : L2.St) (T : List (Addr × Str)) (H1 : Hp) (g : Addr) (n : Nat) (s5 : Shared) : Prop :=
  ∃ (fp wr : List Addr) (G : Array GenState → Array GenState → Prop) (F : Nat → Value → Prop) (St : Nat → Shared → Prop),
    WalksS X.prog X.w X.A.in1 g fp wr G n F St ∧ St 0 s5 ∧ TruthOf X.prog X.w X.A.in1 F (fun _ => false) ∧
    ∀ s', Moved wr G s5 s' → ∃ H2, ExtN H1 H2 ∧ Tabs T H2 ∧ Inv X pins σ H2 s'
theorem vals_int : ∀ {ns : List Int} {us : List Value}, Vals (ns.map V.int) us → ∀ (i : Nat) (v : Value), us[i]? = some v → ∃ n t, v = .int n t
  | [], _, .nil, i, v, h => by simp at h
  | n :: ns, _, .cons r rr, i, v, h => by
    cases i with
    | zero =>
      simp at h
      subst h
      obtain ⟨t, q⟩ := r
      exact ⟨n, t, q⟩
    | succ i => exact vals_int rr i v (by simpa using h)
theorem gen_notint {c P : Addr} {iter : Expr} {x : Str} {px p1 p2 p3 p4 p5 gpos : Pos} {scope : Scope} {te : TE} {k : Nat} {Q' : Value → Shared → Prop} {R : Hp → Prop} {T : List (Addr × Str)}
    (hr : Room k X.A) (hmT : (P, X.env.qual ++ "<genexpr>") ∈ T) (hu : ∀ p ∈ T, p.1 = P → p.2 = X.env.qual ++ "<genexpr>") (TB : LamX.TabB X.base X.mg c P) (hcode : X.env.code = .ref c) (S : GenS X.env scope x) (h1 : scope.names.lookup ("isinstance" : Str) = some .globalImplicit) (h2 : scope.names.lookup ("int" : Str) = some .globalImplicit) (g1 : X.mg "isinstance" = none) (g2 : X.mg "int" = none) (hd : (x == ("__debug__" : Str)) = false)
    (hi : PE X iter te) (hs : ∀ v, genFold iter X.env v = pure v) (I : Inv X pins σ H s) (h : te σ H fun v H1 => ∃ (a : Addr) (ns : List Int), v = .ref a ∧ SqT X.K H1 a (ns.map V.int) ∧ Tabs T H1 ∧ R H1)
    (hQ : ∀ H1 g n s5, R H1 → ReadyF X pins σ T H1 g n s5 → Q' (.ref g) s5) :
    wpAny (model X.prog X.w) X.A (eval (.GeneratorExp (.UnaryOp .Not (.Call (.Name "isinstance" p1) [.Name x p2, .Name "int" p3] [] p4) p5) [⟨.Name x px, iter, [], 0⟩] scope gpos) X.env) Q' X.xe s := by
  refine wpAny_GeneratorExp_walksQ hr.hd S.co (closure_ok S.free) S.cell S.dot S.loc S.kind (by have := hr.dp; omega) ?_ hs
  refine thn (hi.run pins s σ H _ I h) fun xv s1 ⟨v, H1, I1, r1, q1⟩ => ?_
  obtain ⟨a, ns, rfl, hT, hTs, q1⟩ := q1
  obtain ⟨ps, hP, ht, ha⟩ := hTs _ hmT
  have hP : H1 P = some (.tbl ps) := hP
  cases (show xv = Value.ref a from r1)
  obtain ⟨its, oT, nT, rv, ea, oc, od⟩ := sqT_at I1.hok I1.kIn hT
  have hIT : s1.heap.IsTuple a its.toArray := ⟨oT, ea, oc, nT, od⟩
  obtain ⟨o, ho⟩ : ∃ o : Obj, o = { cls := .type "tuple_iterator", data := .fields #[.ref a, .int 0 0] } := ⟨_, rfl⟩
  refine wpAny_pyIter_tuple hIT ?_
  rw [← ho]
  have hPs : s1.heap.get? P = some { cls := .none, data := .fields ps } := I1.hok P _ hP
  have hPlt : P < s1.heap.objs.size := Heap.lt_size hPs
  have hP2 : (s1.heap.push o).get? P = some { cls := .none, data := .fields ps } := Heap.get?_push_of_some _ hPs
  have hlt : a < s1.heap.objs.size := Heap.lt_size ea
  have haP : a ≠ P := fun e => by
    rw [e, hPs] at ea
    cases ea
    cases od
  have cd : PySem.W.CodeHd (s1.heap.push o) c P := TB.code.keeps fun b u e => Heap.get?_push_of_some _ (I1.bk b u e)
  have lim2 : (s1.heap.push o).NoLimit := I1.nolimit.push o
  have nP : ∀ b u, X.base.get? b = some u → b ≠ P := fun b u e z => by
    have := (I1.bs b u e).2
    rw [z, hP] at this
    cases this
  have cont : ∀ (code : Value) (h3 : Heap) (tk : Nat) (ps' : Array Value), Heap.ExtBut P (s1.heap.push o) h3 → (s1.heap.push o).objs.size ≤ h3.objs.size → h3.get? P = some { cls := .none, data := .fields ps' } → (ps' = ps ∨ ∃ c', ps' = ps ++ #[rawInt gpos.line, rawInt gpos.col, .ref c'] ∧ s1.heap.objs.size + 1 ≤ c' ∧ h3.CodeRec (.ref c') (X.env.qual ++ "<genexpr>")) → TriplesOk ps'.toList →
      wpAny (model X.prog X.w) X.A (builtinsFor X.env.globals X.env.builtins) (fun bi s₄ =>
        ∃ Ia fp wr n₀ Pf St₀ pz F, Value.ref s1.heap.objs.size = .ref Ia ∧ (∀ A' : Around, A'.handled = none → Walks X.prog X.w A' Ia fp wr n₀ Pf St₀) ∧ St₀ 0 s₄.heap ∧ (∀ b ∈ fp, b < s₄.heap.objs.size) ∧ s₄.heap.NoLimit ∧ cStatics ∉ wr ∧
          (∀ href : Heap, (∀ b o, s₄.heap.get? b = some o → href.get? b = some o) →
            QuietGen X.prog X.w (genEnv scope (cloFrom X.env.cells scope.names []) s₄.heap.objs.size code bi X.env) x [] (.UnaryOp .Not (.Call (.Name "isinstance" p1) [.Name x p2, .Name "int" p3] [] p4) p5) (List.range s₄.heap.objs.size) wr Pf pz F href) ∧
          (∀ a h₅ tk gs, gs.bare = true → s₄.heap.objs.size < a → h₅.objs.size = a + 1 → (∀ b o, s₄.heap.get? b = some o → h₅.get? b = some o) →
            WalksS X.prog X.w X.A.in4 a (a :: s₄.heap.objs.size :: List.range s₄.heap.objs.size) (s₄.heap.objs.size :: wr) (GenOnlyQ s₄.gens.size) (passing pz n₀ 0).length
              (fun j y => ∃ i, (passing pz n₀ 0)[j]? = some i ∧ F i y) (GenAt X.prog X.w X.A.in4 a s₄.gens.size s₄.heap.objs.size (List.range s₄.heap.objs.size) wr pz n₀ F) →
            GenAt X.prog X.w X.A.in4 a s₄.gens.size s₄.heap.objs.size (List.range s₄.heap.objs.size) wr pz n₀ F 0 { s₄ with gens := s₄.gens.push gs, toks := tk, heap := h₅ } →
            Q' (.ref a) { s₄ with gens := s₄.gens.push gs, toks := tk, heap := h₅ })) X.xe { s1 with heap := h3, toks := tk } := by
    intro code h3 tk ps' hx hsz hP3 hmore ht3
    obtain ⟨bm, ob, e1, e2, e3, e4, e5, e6, e7, e8⟩ := TB.bm
    have hcP : cStatics ≠ P := fun e => by
      obtain ⟨_, hns, _⟩ := I1.nolimit
      obtain ⟨o', es, ep, ho, hd, _⟩ := hns
      rw [e, hPs] at ho
      cases ho
      cases hd
    have hcl : cStatics < s1.heap.objs.size := let ⟨_, hns, _⟩ := I1.nolimit; hns.lt
    have sz2 : (s1.heap.push o).objs.size = s1.heap.objs.size + 1 := Heap.size_push ..
    have hs3 : (s1.heap.objs.size : Nat) + 1 ≤ h3.objs.size := by rw [← sz2]; exact hsz
    have keep3 : ∀ b u, b ≠ P → s1.heap.get? b = some u → h3.get? b = some u := fun b u hb e => hx b u hb (Heap.get?_push_of_some _ e)
    obtain ⟨mb, B1, B2⟩ := I1.mod.blt
    refine wpAny_builtinsFor (m := X.mg) (by rw [I1.ok.glob]; exact ((I1.mod.glob.keeps I1.bk).push o).extBut hx TB.gP) e1 e2 (keep3 _ _ e4 (I1.bk _ _ e5)) e6 e7 e8 ?_
    refine ⟨s1.heap.objs.size, [s1.heap.objs.size, a], [s1.heap.objs.size], its.toArray.size, (fun i v => its.toArray[i]? = some v), (fun i h => h.IsTupleIter s1.heap.objs.size a i ∧ h.IsTuple a its.toArray), (fun _ => true), (fun _ y => y = .bool false), rfl, fun A' hA => Walks.tuple hA _ a (Nat.ne_of_lt hlt) its.toArray, ?_, ?_, lim2.extBut hx hcP, ?_, ?_, ?_⟩
    · refine ⟨⟨o, hx _ _ (fun z => Nat.ne_of_lt hPlt z.symm) (Heap.get?_push_size _ (by rw [ho]; rfl)), by rw [ho], by rw [ho]; rfl⟩, ⟨oT, keep3 a _ haP ea, oc, nT, od⟩⟩
    · intro b hb
      show b < h3.objs.size
      rcases List.mem_cons.mp hb with z | z
      · rw [z]
        exact hs3
      · rw [List.mem_singleton.mp z]
        exact Nat.lt_of_lt_of_le hlt (Nat.le_trans (Nat.le_succ _) hs3)
    · intro z
      rw [List.mem_singleton.mp z] at hcl
      exact Nat.lt_irrefl _ hcl
    · intro href hhref
      refine ⟨fun A' E' i v s₂ m₂ hA hPv hn hm hk => ?_, fun A' E' i v s₂ m₂ hA hPv hp hn hm hk => ?_⟩
      · simp only [List.forIn_nil]
        exact wpAny_pure ⟨rfl, keeps_refl _⟩
      · obtain ⟨n, t, rfl⟩ := vals_int rv i v (by simpa using hPv)
        have kb : ∀ b u, X.base.get? b = some u → s₂.heap.get? b = some u := fun b u e => by
          have hb := Heap.lt_size (I1.bk b u e)
          refine hk b (List.mem_range.mpr (show b < h3.objs.size from Nat.lt_of_lt_of_le hb (Nat.le_trans (Nat.le_succ _) hs3))) (fun z => ?_) u (hhref b u (keep3 b u (nP b u e) (I1.bk b u e)))
          rw [List.mem_singleton.mp z] at hb
          exact Nat.lt_irrefl _ hb
        exact elt_notint (K := X.K) (mg := X.mg) (mb := mb) S.kind S.loc h1 h2 (by show s₂.heap.Ns X.env.globals _; rw [I1.ok.glob]; exact I1.mod.glob.keeps kb) g1 g2 (B1.keeps kb) ((B2 "isinstance" (by decide)).trans (by rfl)) ((B2 "int" (by decide)).trans (by rfl)) (I1.ok.mod.kin.keeps kb) hn hm hd
    · intro g h5 tk5 gs hgb hag hsz5 hk5 W5 hat
      refine hQ H1 g _ _ q1 ⟨_, _, _, _, _, W5.in4_1, hat, ?_, fun s' hm => ?_⟩
      · intro j y sj Qj Ej hy hQj
        obtain ⟨i, hij, rfl⟩ := hy
        exact wpAny_truthy_bool hQj
      · have nwr : ∀ b u, s1.heap.get? b = some u → b ∉ h3.objs.size :: [s1.heap.objs.size] := fun b u e hb => by
          have hl := Heap.lt_size e
          rcases List.mem_cons.mp hb with z | z
          · rw [z] at hl
            have h9 : (h3.objs.size : Nat) < s1.heap.objs.size := hl
            omega
          · rw [List.mem_singleton.mp z] at hl
            exact Nat.lt_irrefl _ hl
        rcases hmore with em | ⟨c', em, hc', hrec⟩
        · subst em
          have J := inv_tab (more := #[]) (h' := s'.heap) (g' := s'.gens) (d' := s'.drawn) (t' := s'.toks) I1 hP (fun b u hb e => hm.heap b u (nwr b u e) (hk5 b u (keep3 b u hb e)))
            (by rw [Array.append_empty]; exact hm.heap P _ (nwr P _ hPs) (hk5 P _ hP3)) (AllBare.movedS (I1.bare.push hgb) hm)
          rw [sh_eta s1 s' hm.os, Array.append_empty] at J
          have eH : upd H1 P (.tbl ps') = H1 := by
            funext b
            by_cases hb : b = P
            · rw [hb, upd_same, hP]
            · rw [upd_ne hb]
          rw [eH] at J
          exact ⟨H1, ExtN.refl H1, hTs, J⟩
        · subst em
          obtain ⟨c2, oc, vs, t, e2, hoc, hd2, hv⟩ := hrec
          cases e2
          have hcs : s1.heap.objs.size ≤ c' := Nat.le_trans (Nat.le_succ _) hc'
          have fresh : H1 c' = none := I1.hok.fresh hcs
          have ncP : P ≠ c' := ne_of_none hP fresh
          have nwc : c' ∉ h3.objs.size :: [s1.heap.objs.size] := fun hb => by
            rcases List.mem_cons.mp hb with z | z
            · have := Heap.lt_size hoc
              rw [z] at this
              exact Nat.lt_irrefl _ this
            · rw [List.mem_singleton.mp z] at hc'
              exact Nat.lt_irrefl _ hc'
          have kp : ∀ b u, b ≠ P → s1.heap.get? b = some u → s'.heap.get? b = some u := fun b u hb e => hm.heap b u (nwr b u e) (hk5 b u (keep3 b u hb e))
          have atP := hm.heap P _ (nwr P _ hPs) (hk5 P _ hP3)
          have J1 := inv_table (q := X.env.qual ++ "<genexpr>") (t' := s'.toks) (more := #[rawInt gpos.line, rawInt gpos.col, .ref c']) (h' := s'.heap) I1 hP kp atP hcs ⟨oc, vs, t, hm.heap c' _ nwc (hk5 c' _ hoc), hd2, hv⟩
          obtain ⟨H2, eH2⟩ : ∃ H2, H2 = upd (upd H1 P (.tbl (ps ++ #[rawInt gpos.line, rawInt gpos.col, .ref c']))) c' (CodeO c' (X.env.qual ++ "<genexpr>")) := ⟨_, rfl⟩
          rw [← eH2] at J1
          have hP2' : H2 P = some (.tbl (ps ++ #[rawInt gpos.line, rawInt gpos.col, .ref c'])) := by rw [eH2, upd_ne ncP, upd_same]
          have J := inv_tab (more := #[]) (h' := s'.heap) (g' := s'.gens) (d' := s'.drawn) (t' := s'.toks) J1 hP2' (fun b u _ e => e) (by rw [Array.append_empty]; exact atP) (AllBare.movedS (I1.bare.push hgb) hm)
          have eS : ({ ({ s1 with heap := s'.heap, toks := s'.toks } : Shared) with heap := s'.heap, gens := s'.gens, drawn := s'.drawn, toks := s'.toks } : Shared) = s' := sh_eta s1 s' hm.os
          rw [eS, Array.append_empty] at J
          have eH : upd H2 P (.tbl (ps ++ #[rawInt gpos.line, rawInt gpos.col, .ref c'])) = H2 := by
            funext b
            by_cases hb : b = P
            · rw [hb, upd_same, hP2']
            · rw [upd_ne hb]
          rw [eH] at J
          have hN : ExtN H1 H2 := fun b u e nt => by
            have hbP : b ≠ P := fun z => by
              rw [z, hP] at e
              exact nt ps (Option.some.inj e).symm
            rw [eH2, upd_ne (ne_of_none e fresh), upd_ne hbP, e]
          refine ⟨H2, hN, fun pr hpr => ?_, J⟩
          by_cases hb : pr.1 = P
          · rw [hu pr hpr hb, hb]
            refine ⟨_, hP2', ht3, fun p' cv hcv => ?_⟩
            have hcv' : codeAmong p' (ps.toList ++ [rawInt gpos.line, rawInt gpos.col, .ref c']) = some cv := by simpa using hcv
            rcases among_app _ ht hcv' with z | z
            · obtain ⟨c0, u1, u2⟩ := ha p' cv z
              exact ⟨c0, u1, hN _ _ u2 codeO_ne⟩
            · exact ⟨c', z, by rw [eH2, upd_same]⟩
          · obtain ⟨ps0, v1, v2, v3⟩ := hTs pr hpr
            refine ⟨ps0, by rw [eH2, upd_ne (ne_of_none v1 fresh), upd_ne hb]; exact v1, v2, fun p' cv hcv => ?_⟩
            obtain ⟨c0, u1, u2⟩ := v3 p' cv hcv
            exact ⟨c0, u1, hN _ _ u2 codeO_ne⟩
  refine ⟨lim2, ?_⟩
  cases hf : codeAmong gpos ps.toList with
  | none =>
    refine wpAny_genexprCodeX hcode (cd.code hP2 ht) (cd.tab hP2) hf fun c' h' tk hx hge hlt hco' hrec htab' _ => ?_
    obtain ⟨o1, vs, f1, tf, fl, tg, inF, tx, tt, op, _, _, _, _, _, _, _, _, _, htr, _⟩ := hco'
    exact cont _ h' tk _ hx (Nat.le_trans hge (Nat.le_of_lt hlt)) htab'.2 (.inr ⟨c', rfl, by rw [show (s1.heap.push o).objs.size = s1.heap.objs.size + 1 from Heap.size_push ..] at hge; exact hge, hrec⟩) htr
  | some cv =>
    refine wpAny_genexprCode_hit hcode (cd.code hP2 ht) hf ?_
    exact cont cv (s1.heap.push o) s1.toks ps (Heap.ExtBut.refl _ _) (Nat.le_refl _) hP2 (.inl rfl) ht
/-- any(not isinstance(x, int) for x in t): no, if all are ints; the def's table may have grown -/
def tAnyNI (K : PySem.W.Frag) (T : List (Addr × Str)) (te : TE) : TE := fun σ H Q => te σ H fun v H1 => ∃ (a : Addr) (ns : List Int), v = .ref a ∧ SqT K H1 a (ns.map V.int) ∧ Tabs T H1 ∧ ∀ H2, ExtN H1 H2 → Tabs T H2 → Q (.bl false) H2
theorem pe_anyNI {c P : Addr} {iter : Expr} {x : Str} {px p pos p1 p2 p3 p4 p5 gpos : Pos} {scope : Scope} {te : TE} {k : Nat} {T : List (Addr × Str)}
    (hr : Room k X.A) (hg : Gl X "any") (hm : X.mg "any" = none) (hmT : (P, X.env.qual ++ "<genexpr>") ∈ T) (hu : ∀ p ∈ T, p.1 = P → p.2 = X.env.qual ++ "<genexpr>") (TB : LamX.TabB X.base X.mg c P) (hcode : X.env.code = .ref c) (S : GenS X.env scope x) (h1 : scope.names.lookup ("isinstance" : Str) = some .globalImplicit) (h2 : scope.names.lookup ("int" : Str) = some .globalImplicit) (g1 : X.mg "isinstance" = none) (g2 : X.mg "int" = none) (hd : (x == ("__debug__" : Str)) = false)
    (hi : PE X iter te) (hs : ∀ v, genFold iter X.env v = pure v) :
    PE X (.Call (.Name "any" p) [.GeneratorExp (.UnaryOp .Not (.Call (.Name "isinstance" p1) [.Name x p2, .Name "int" p3] [] p4) p5) [⟨.Name x px, iter, [], 0⟩] scope gpos] [] pos) (tAnyNI X.K T te) := by
  refine ⟨fun pins s σ H Q I h => ?_⟩
  refine wpAny_Call_Name_kw (ld_blt I hg hm boot_any ?_)
  refine PyProof.Rows.callWith_builtin1 ?_
  show wpAny _ _ (spliced [(false, eval (.GeneratorExp (.UnaryOp .Not (.Call (.Name "isinstance" p1) [.Name x p2, .Name "int" p3] [] p4) p5) [⟨.Name x px, iter, [], 0⟩] scope gpos) X.env)]) _ _ s
  refine Calls.spliced_cons (gen_notint (R := fun H1 => ∀ H2, ExtN H1 H2 → Tabs T H2 → Q (.bl false) H2) hr hmT hu TB hcode S h1 h2 g1 g2 hd hi hs I h fun H1 g n s5 hR hG => ?_)
  obtain ⟨fp, wr, G, F, St, W, hst, htr, hI⟩ := hG
  refine Calls.spliced_nil ?_
  refine call_any_walkS (W.self 0 _ _ _ hst ⟨g, fp, wr, G, _, F, St, _, rfl, W, hst, htr, fun s' hmv => ?_⟩)
  obtain ⟨H2, hN, hT, J⟩ := hI s' hmv
  refine ⟨.bl _, H2, J, rfl, ?_⟩
  have e : ((List.range n).any fun _ => false) = false := by simp
  rw [e]
  exact hR H2 hN hT
end
end GxT

/-! DatGz -/
set_option Elab.async false
set_option linter.all false
set_option maxRecDepth 100000
set_option maxHeartbeats 2000000
/-! DatGz: any(test for x in l), l a list. -/
namespace GzT
open PySem PySem.Spec PyProof.Rows L2 GxR LamX
section
variable {X : Cx} {pins : List (Addr × Obj)} {σ : L2.St} {H : Hp} {s : Shared}
/-- a generator over n items that is ready to be walked; each of its values is False -/
def ReadyB (X : Cx) (pins : List (Addr × Obj)) (σ : L2.St) (T : List (Addr × Str)) (H1 : Hp) (g : Addr) (n : Nat) (bf : Nat → Bool) (s5 : Shared) : Prop :=
  ∃ (fp wr : List Addr) (G : Array GenState → Array GenState → Prop) (F : Nat → Value → Prop) (St : Nat → Shared → Prop),
    WalksS X.prog X.w X.A.in1 g fp wr G n F St ∧ St 0 s5 ∧ TruthOf X.prog X.w X.A.in1 F bf ∧
    ∀ s', Moved wr G s5 s' → ∃ H2, ExtN H1 H2 ∧ Tabs T H2 ∧ Inv X pins σ H2 s'
/-- what an item's test says, wherever the old objects stand -/
def EltB (X : Cx) (pins : List (Addr × Obj)) (σ : L2.St) (P : Addr) (x : Str) (elt : Expr) (C : List V → (Nat → Bool) → Hp → Prop) : Prop :=
  ∀ (H1 : Hp) (s1 : Shared) (xs : List V) (bf : Nat → Bool) (its : List Value), Inv X pins σ H1 s1 → C xs bf H1 → Vals xs its → (∃ ps, H1 P = some (.tbl ps)) → ∀ (i : Nat) (v : Value), its[i]? = some v →
    ∀ (cenv : Env) (A' : Around) (E' : Value → Shared → Prop) (s₂ : Shared) (m : Str → Option Value), cenv.scope.kind = .function → cenv.kindOf x = some .local → s₂.heap.Ns cenv.locals m → m x = some v → (∀ b u, b ≠ P → s1.heap.get? b = some u → s₂.heap.get? b = some u) →
      wpAny (model X.prog X.w) A' (eval elt cenv) (fun y s₃ => y = .bool (bf i) ∧ Keeps s₂ s₃) E' s₂
theorem gen_any {c P : Addr} {elt iter : Expr} {x : Str} {px gpos : Pos} {C : List V → (Nat → Bool) → Hp → Prop} {scope : Scope} {te : TE} {k : Nat} {Q' : Value → Shared → Prop} {R : List V → (Nat → Bool) → Hp → Prop} {T : List (Addr × Str)}
    (hr : Room k X.A) (hmT : (P, X.env.qual ++ "<genexpr>") ∈ T) (hu : ∀ p ∈ T, p.1 = P → p.2 = X.env.qual ++ "<genexpr>") (TB : LamX.TabB X.base X.mg c P) (hcode : X.env.code = .ref c) (S : GenS X.env scope x)
    (hel : ∀ pins σ, EltB X pins σ P x elt C) (hi : PE X iter te) (hs : ∀ v, genFold iter X.env v = pure v) (I : Inv X pins σ H s) (h : te σ H fun v H1 => ∃ (a : Addr) (xs : List V) (bf : Nat → Bool), v = .ref a ∧ SqL X.K H1 a xs ∧ Tabs T H1 ∧ C xs bf H1 ∧ R xs bf H1)
    (hQ : ∀ H1 g xs bf s5, R xs bf H1 → ReadyB X pins σ T H1 g xs.length bf s5 → Q' (.ref g) s5) :
    wpAny (model X.prog X.w) X.A (eval (.GeneratorExp elt [⟨.Name x px, iter, [], 0⟩] scope gpos) X.env) Q' X.xe s := by
  refine wpAny_GeneratorExp_walksQ hr.hd S.co (closure_ok S.free) S.cell S.dot S.loc S.kind (by have := hr.dp; omega) ?_ hs
  refine thn (hi.run pins s σ H _ I h) fun xv s1 ⟨v, H1, I1, r1, q1⟩ => ?_
  obtain ⟨a, xs, bf, rfl, hT, hTs, hC, q1⟩ := q1
  obtain ⟨ps, hP, ht, ha⟩ := hTs _ hmT
  have hP : H1 P = some (.tbl ps) := hP
  cases (show xv = Value.ref a from r1)
  obtain ⟨its, rv, pl, hz⟩ := I1.list hT
  have hIT := pl.isList
  obtain ⟨oT, ea, oc, nT, od⟩ := id hIT
  obtain ⟨o, ho⟩ : ∃ o : Obj, o = { cls := .type "list_iterator", data := .fields #[.ref a, .int 0 0] } := ⟨_, rfl⟩
  refine wpAny_pyIter_list hIT ?_
  rw [← ho]
  have hPs : s1.heap.get? P = some { cls := .none, data := .fields ps } := I1.hok P _ hP
  have hPlt : P < s1.heap.objs.size := Heap.lt_size hPs
  have hP2 : (s1.heap.push o).get? P = some { cls := .none, data := .fields ps } := Heap.get?_push_of_some _ hPs
  have hlt : a < s1.heap.objs.size := Heap.lt_size ea
  have haP : a ≠ P := fun e => by
    rw [e, hPs] at ea
    cases ea
    cases od
  have cd : PySem.W.CodeHd (s1.heap.push o) c P := TB.code.keeps fun b u e => Heap.get?_push_of_some _ (I1.bk b u e)
  have lim2 : (s1.heap.push o).NoLimit := I1.nolimit.push o
  have nP : ∀ b u, X.base.get? b = some u → b ≠ P := fun b u e z => by
    have := (I1.bs b u e).2
    rw [z, hP] at this
    cases this
  have cont : ∀ (code : Value) (h3 : Heap) (tk : Nat) (ps' : Array Value), Heap.ExtBut P (s1.heap.push o) h3 → (s1.heap.push o).objs.size ≤ h3.objs.size → h3.get? P = some { cls := .none, data := .fields ps' } → (ps' = ps ∨ ∃ c', ps' = ps ++ #[rawInt gpos.line, rawInt gpos.col, .ref c'] ∧ s1.heap.objs.size + 1 ≤ c' ∧ h3.CodeRec (.ref c') (X.env.qual ++ "<genexpr>")) → TriplesOk ps'.toList →
      wpAny (model X.prog X.w) X.A (builtinsFor X.env.globals X.env.builtins) (fun bi s₄ =>
        ∃ Ia fp wr n₀ Pf St₀ pz F, Value.ref s1.heap.objs.size = .ref Ia ∧ (∀ A' : Around, A'.handled = none → Walks X.prog X.w A' Ia fp wr n₀ Pf St₀) ∧ St₀ 0 s₄.heap ∧ (∀ b ∈ fp, b < s₄.heap.objs.size) ∧ s₄.heap.NoLimit ∧ cStatics ∉ wr ∧
          (∀ href : Heap, (∀ b o, s₄.heap.get? b = some o → href.get? b = some o) →
            QuietGen X.prog X.w (genEnv scope (cloFrom X.env.cells scope.names []) s₄.heap.objs.size code bi X.env) x [] elt (List.range s₄.heap.objs.size) wr Pf pz F href) ∧
          (∀ a h₅ tk gs, gs.bare = true → s₄.heap.objs.size < a → h₅.objs.size = a + 1 → (∀ b o, s₄.heap.get? b = some o → h₅.get? b = some o) →
            WalksS X.prog X.w X.A.in4 a (a :: s₄.heap.objs.size :: List.range s₄.heap.objs.size) (s₄.heap.objs.size :: wr) (GenOnlyQ s₄.gens.size) (passing pz n₀ 0).length
              (fun j y => ∃ i, (passing pz n₀ 0)[j]? = some i ∧ F i y) (GenAt X.prog X.w X.A.in4 a s₄.gens.size s₄.heap.objs.size (List.range s₄.heap.objs.size) wr pz n₀ F) →
            GenAt X.prog X.w X.A.in4 a s₄.gens.size s₄.heap.objs.size (List.range s₄.heap.objs.size) wr pz n₀ F 0 { s₄ with gens := s₄.gens.push gs, toks := tk, heap := h₅ } →
            Q' (.ref a) { s₄ with gens := s₄.gens.push gs, toks := tk, heap := h₅ })) X.xe { s1 with heap := h3, toks := tk } := by
    intro code h3 tk ps' hx hsz hP3 hmore ht3
    obtain ⟨bm, ob, e1, e2, e3, e4, e5, e6, e7, e8⟩ := TB.bm
    have hcP : cStatics ≠ P := fun e => by
      obtain ⟨_, hns, _⟩ := I1.nolimit
      obtain ⟨o', es, ep, ho, hd, _⟩ := hns
      rw [e, hPs] at ho
      cases ho
      cases hd
    have hcl : cStatics < s1.heap.objs.size := let ⟨_, hns, _⟩ := I1.nolimit; hns.lt
    have sz2 : (s1.heap.push o).objs.size = s1.heap.objs.size + 1 := Heap.size_push ..
    have hs3 : (s1.heap.objs.size : Nat) + 1 ≤ h3.objs.size := by rw [← sz2]; exact hsz
    have keep3 : ∀ b u, b ≠ P → s1.heap.get? b = some u → h3.get? b = some u := fun b u hb e => hx b u hb (Heap.get?_push_of_some _ e)
    obtain ⟨mb, B1, B2⟩ := I1.mod.blt
    refine wpAny_builtinsFor (m := X.mg) (by rw [I1.ok.glob]; exact ((I1.mod.glob.keeps I1.bk).push o).extBut hx TB.gP) e1 e2 (keep3 _ _ e4 (I1.bk _ _ e5)) e6 e7 e8 ?_
    refine ⟨s1.heap.objs.size, [s1.heap.objs.size, a], [s1.heap.objs.size], its.toArray.size, (fun i v => its.toArray[i]? = some v), (fun i h => h.IsListIter s1.heap.objs.size a i ∧ h.IsList a its.toArray), (fun _ => true), (fun i y => y = .bool (bf i)), rfl, fun A' hA => Walks.list hA _ a (Nat.ne_of_lt hlt) its.toArray, ?_, ?_, lim2.extBut hx hcP, ?_, ?_, ?_⟩
    · refine ⟨⟨o, hx _ _ (fun z => Nat.ne_of_lt hPlt z.symm) (Heap.get?_push_size _ (by rw [ho]; rfl)), by rw [ho], by rw [ho]; rfl⟩, ⟨oT, keep3 a _ haP ea, oc, nT, od⟩⟩
    · intro b hb
      show b < h3.objs.size
      rcases List.mem_cons.mp hb with z | z
      · rw [z]
        exact hs3
      · rw [List.mem_singleton.mp z]
        exact Nat.lt_of_lt_of_le hlt (Nat.le_trans (Nat.le_succ _) hs3)
    · intro z
      rw [List.mem_singleton.mp z] at hcl
      exact Nat.lt_irrefl _ hcl
    · intro href hhref
      refine ⟨fun A' E' i v s₂ m₂ hA hPv hn hm hk => ?_, fun A' E' i v s₂ m₂ hA hPv hp hn hm hk => ?_⟩
      · simp only [List.forIn_nil]
        exact wpAny_pure ⟨rfl, keeps_refl _⟩
      · refine hel pins σ H1 s1 xs bf its I1 hC rv ⟨ps, hP⟩ i v (by simpa using hPv) _ A' E' s₂ m₂ S.kind S.loc hn hm fun b u hb e => ?_
        have hlb := Heap.lt_size e
        refine hk b (List.mem_range.mpr (show b < h3.objs.size from Nat.lt_of_lt_of_le hlb (Nat.le_trans (Nat.le_succ _) hs3))) (fun z => ?_) u (hhref b u (keep3 b u hb e))
        rw [List.mem_singleton.mp z] at hlb
        exact Nat.lt_irrefl _ hlb
    · intro g h5 tk5 gs hgb hag hsz5 hk5 W5 hat
      have en : (passing (fun _ => true) its.toArray.size 0) = List.range xs.length := by
        rw [GxR.passing_true, List.size_toArray, ← rv.length]
      have W6 := W5.in4_1
      rw [en, List.length_range] at W6
      refine hQ H1 g xs bf _ q1 ⟨_, _, _, _, _, W6, hat, ?_, fun s' hm => ?_⟩
      · intro j y sj Qj Ej hy hQj
        obtain ⟨i, hij, rfl⟩ := hy
        have e9 : i = j := by
          obtain ⟨hl9, e9⟩ := List.getElem?_eq_some_iff.mp hij
          simpa using e9.symm
        subst e9
        exact wpAny_truthy_bool hQj
      · have nwr : ∀ b u, s1.heap.get? b = some u → b ∉ h3.objs.size :: [s1.heap.objs.size] := fun b u e hb => by
          have hl := Heap.lt_size e
          rcases List.mem_cons.mp hb with z | z
          · rw [z] at hl
            have h9 : (h3.objs.size : Nat) < s1.heap.objs.size := hl
            omega
          · rw [List.mem_singleton.mp z] at hl
            exact Nat.lt_irrefl _ hl
        rcases hmore with em | ⟨c', em, hc', hrec⟩
        · subst em
          have J := inv_tab (more := #[]) (h' := s'.heap) (g' := s'.gens) (d' := s'.drawn) (t' := s'.toks) I1 hP (fun b u hb e => hm.heap b u (nwr b u e) (hk5 b u (keep3 b u hb e)))
            (by rw [Array.append_empty]; exact hm.heap P _ (nwr P _ hPs) (hk5 P _ hP3)) (AllBare.movedS (I1.bare.push hgb) hm)
          rw [sh_eta s1 s' hm.os, Array.append_empty] at J
          have eH : upd H1 P (.tbl ps') = H1 := by
            funext b
            by_cases hb : b = P
            · rw [hb, upd_same, hP]
            · rw [upd_ne hb]
          rw [eH] at J
          exact ⟨H1, ExtN.refl H1, hTs, J⟩
        · subst em
          obtain ⟨c2, oc, vs, t, e2, hoc, hd2, hv⟩ := hrec
          cases e2
          have hcs : s1.heap.objs.size ≤ c' := Nat.le_trans (Nat.le_succ _) hc'
          have fresh : H1 c' = none := I1.hok.fresh hcs
          have ncP : P ≠ c' := ne_of_none hP fresh
          have nwc : c' ∉ h3.objs.size :: [s1.heap.objs.size] := fun hb => by
            rcases List.mem_cons.mp hb with z | z
            · have := Heap.lt_size hoc
              rw [z] at this
              exact Nat.lt_irrefl _ this
            · rw [List.mem_singleton.mp z] at hc'
              exact Nat.lt_irrefl _ hc'
          have kp : ∀ b u, b ≠ P → s1.heap.get? b = some u → s'.heap.get? b = some u := fun b u hb e => hm.heap b u (nwr b u e) (hk5 b u (keep3 b u hb e))
          have atP := hm.heap P _ (nwr P _ hPs) (hk5 P _ hP3)
          have J1 := inv_table (q := X.env.qual ++ "<genexpr>") (t' := s'.toks) (more := #[rawInt gpos.line, rawInt gpos.col, .ref c']) (h' := s'.heap) I1 hP kp atP hcs ⟨oc, vs, t, hm.heap c' _ nwc (hk5 c' _ hoc), hd2, hv⟩
          obtain ⟨H2, eH2⟩ : ∃ H2, H2 = upd (upd H1 P (.tbl (ps ++ #[rawInt gpos.line, rawInt gpos.col, .ref c']))) c' (CodeO c' (X.env.qual ++ "<genexpr>")) := ⟨_, rfl⟩
          rw [← eH2] at J1
          have hP2' : H2 P = some (.tbl (ps ++ #[rawInt gpos.line, rawInt gpos.col, .ref c'])) := by rw [eH2, upd_ne ncP, upd_same]
          have J := inv_tab (more := #[]) (h' := s'.heap) (g' := s'.gens) (d' := s'.drawn) (t' := s'.toks) J1 hP2' (fun b u _ e => e) (by rw [Array.append_empty]; exact atP) (AllBare.movedS (I1.bare.push hgb) hm)
          have eS : ({ ({ s1 with heap := s'.heap, toks := s'.toks } : Shared) with heap := s'.heap, gens := s'.gens, drawn := s'.drawn, toks := s'.toks } : Shared) = s' := sh_eta s1 s' hm.os
          rw [eS, Array.append_empty] at J
          have eH : upd H2 P (.tbl (ps ++ #[rawInt gpos.line, rawInt gpos.col, .ref c'])) = H2 := by
            funext b
            by_cases hb : b = P
            · rw [hb, upd_same, hP2']
            · rw [upd_ne hb]
          rw [eH] at J
          have hN : ExtN H1 H2 := fun b u e nt => by
            have hbP : b ≠ P := fun z => by
              rw [z, hP] at e
              exact nt ps (Option.some.inj e).symm
            rw [eH2, upd_ne (ne_of_none e fresh), upd_ne hbP, e]
          refine ⟨H2, hN, fun pr hpr => ?_, J⟩
          by_cases hb : pr.1 = P
          · rw [hu pr hpr hb, hb]
            refine ⟨_, hP2', ht3, fun p' cv hcv => ?_⟩
            have hcv' : codeAmong p' (ps.toList ++ [rawInt gpos.line, rawInt gpos.col, .ref c']) = some cv := by simpa using hcv
            rcases among_app _ ht hcv' with z | z
            · obtain ⟨c0, u1, u2⟩ := ha p' cv z
              exact ⟨c0, u1, hN _ _ u2 codeO_ne⟩
            · exact ⟨c', z, by rw [eH2, upd_same]⟩
          · obtain ⟨ps0, v1, v2, v3⟩ := hTs pr hpr
            refine ⟨ps0, by rw [eH2, upd_ne (ne_of_none v1 fresh), upd_ne hb]; exact v1, v2, fun p' cv hcv => ?_⟩
            obtain ⟨c0, u1, u2⟩ := v3 p' cv hcv
            exact ⟨c0, u1, hN _ _ u2 codeO_ne⟩
  refine ⟨lim2, ?_⟩
  cases hf : codeAmong gpos ps.toList with
  | none =>
    refine wpAny_genexprCodeX hcode (cd.code hP2 ht) (cd.tab hP2) hf fun c' h' tk hx hge hlt hco' hrec htab' _ => ?_
    obtain ⟨o1, vs, f1, tf, fl, tg, inF, tx, tt, op, _, _, _, _, _, _, _, _, _, htr, _⟩ := hco'
    exact cont _ h' tk _ hx (Nat.le_trans hge (Nat.le_of_lt hlt)) htab'.2 (.inr ⟨c', rfl, by rw [show (s1.heap.push o).objs.size = s1.heap.objs.size + 1 from Heap.size_push ..] at hge; exact hge, hrec⟩) htr
  | some cv =>
    refine wpAny_genexprCode_hit hcode (cd.code hP2 ht) hf ?_
    exact cont cv (s1.heap.push o) s1.toks ps (Heap.ExtBut.refl _ _) (Nat.le_refl _) hP2 (.inl rfl) ht
/-- any(test for x in a list); the def's table may have grown -/
def tAnyB (K : PySem.W.Frag) (T : List (Addr × Str)) (C : List V → (Nat → Bool) → Hp → Prop) (te : TE) : TE := fun σ H Q => te σ H fun v H1 => ∃ (a : Addr) (xs : List V) (bf : Nat → Bool), v = .ref a ∧ SqL K H1 a xs ∧ Tabs T H1 ∧ C xs bf H1 ∧ ∀ H2, ExtN H1 H2 → Tabs T H2 → Q (.bl ((List.range xs.length).any bf)) H2
theorem pe_anyB {c P : Addr} {elt iter : Expr} {x : Str} {px p pos gpos : Pos} {scope : Scope} {te : TE} {k : Nat} {T : List (Addr × Str)} {C : List V → (Nat → Bool) → Hp → Prop}
    (hr : Room k X.A) (hg : Gl X "any") (hm : X.mg "any" = none) (hmT : (P, X.env.qual ++ "<genexpr>") ∈ T) (hu : ∀ p ∈ T, p.1 = P → p.2 = X.env.qual ++ "<genexpr>") (TB : LamX.TabB X.base X.mg c P) (hcode : X.env.code = .ref c) (S : GenS X.env scope x)
    (hel : ∀ pins σ, EltB X pins σ P x elt C) (hi : PE X iter te) (hs : ∀ v, genFold iter X.env v = pure v) :
    PE X (.Call (.Name "any" p) [.GeneratorExp elt [⟨.Name x px, iter, [], 0⟩] scope gpos] [] pos) (tAnyB X.K T C te) := by
  refine ⟨fun pins s σ H Q I h => ?_⟩
  refine wpAny_Call_Name_kw (ld_blt I hg hm boot_any ?_)
  refine PyProof.Rows.callWith_builtin1 ?_
  show wpAny _ _ (spliced [(false, eval (.GeneratorExp elt [⟨.Name x px, iter, [], 0⟩] scope gpos) X.env)]) _ _ s
  refine Calls.spliced_cons (gen_any (C := C) (R := fun xs bf H1 => ∀ H2, ExtN H1 H2 → Tabs T H2 → Q (.bl ((List.range xs.length).any bf)) H2) hr hmT hu TB hcode S hel hi hs I h fun H1 g xs bf s5 hR hG => ?_)
  obtain ⟨fp, wr, G, F, St, W, hst, htr, hI⟩ := hG
  refine Calls.spliced_nil ?_
  refine call_any_walkS (W.self 0 _ _ _ hst ⟨g, fp, wr, G, _, F, St, _, rfl, W, hst, htr, fun s' hmv => ?_⟩)
  obtain ⟨H2, hN, hT, J⟩ := hI s' hmv
  exact ⟨.bl _, H2, J, rfl, hR H2 hN hT⟩
end
end GzT
namespace GzT
open PySem PySem.Spec PyProof.Rows L2 GxR LamX
/-- what x[-1][0] != 0 asks of the items -/
def CLast (K : PySem.W.Frag) (xs : List V) (bf : Nat → Bool) (H : Hp) : Prop := ∀ i v, xs[i]? = some v → ∃ (a t : Addr) (ws zs : List V) (z : Int), v = .ref a ∧ SqL K H a ws ∧ atI ws (-1) = some (.ref t) ∧ SqT K H t zs ∧ atI zs 0 = some (.int z) ∧ bf i = decide (z ≠ 0)
theorem vals_back : ∀ {xs : List V} {us : List Value}, Vals xs us → ∀ (i : Nat) (u : Value), us[i]? = some u → ∃ x, xs[i]? = some x ∧ RelV x u
  | [], _, .nil, i, v, h => by simp at h
  | x :: xs, _, .cons r rr, i, v, h => by
    cases i with
    | zero => simp at h; subst h; exact ⟨x, rfl, r⟩
    | succ i => exact vals_back rr i v (by simpa using h)
theorem elt_last {X : Cx} {pins : List (Addr × Obj)} {σ : L2.St} {P : Addr} {x : Str} {j1 j2 j3 : Nat} {p1 p2 p3 p4 p5 p6 p7 p8 : Pos} (hd : (x == ("__debug__" : Str)) = false) :
    EltB X pins σ P x (.Compare (.Subscript (.Subscript (.Name x p1) (.UnaryOp .USub (.Constant (.int 1) j1 p2) p3) p4) (.Constant (.int 0) j2 p5) p6) [.NotEq] [.Constant (.int 0) j3 p7] p8) (CLast X.K) := by
  intro H1 s1 xs bf its I hC r ⟨ps, hP⟩ i v hv cenv A' E' s₂ m hk hx hn hm hkeep
  obtain ⟨v0, hv0, rv⟩ := vals_back r i v hv
  obtain ⟨a, t, ws, zs, z, rfl, hL, hat, hT, hz, hb⟩ := hC i v0 hv0
  obtain rfl : v = Value.ref a := rv
  obtain ⟨its1, r1, pl1, z1⟩ := I.list hL
  obtain ⟨its2, r2, pl2, z2⟩ := I.tuple hT
  have rawP : s1.heap.get? P = some { cls := .none, data := .fields ps } := I.hok P _ hP
  have l2 : s₂.heap.IsList a its1.toArray := by
    obtain ⟨o, e1, e2, e3, e4⟩ := pl1.isList
    refine ⟨o, hkeep a o (fun q => ?_) e1, e2, e3, e4⟩
    rw [q, rawP] at e1
    cases e1
    cases e4
  have t2 : IsTup s₂.heap t its2.toArray := by
    obtain ⟨o, e1, e2, e3, e4⟩ := pl2
    refine ⟨o, hkeep t o (fun q => ?_) e1, e2, e3, e4⟩
    rw [q, rawP] at e1
    cases e1
    cases e4
  obtain ⟨j, g1, g2, g3, g4, g5⟩ := atI_get hat
  obtain ⟨w, ew, rw'⟩ := r1.get g2
  obtain rfl : w = Value.ref t := rw'
  have hl := r1.length
  have hn1 := line63
  have hj : ((-1 : Int) + (its1.toArray.size : Int)).toNat = j := by
    rw [seqIndex_neg (by omega) g4] at g1
    rw [List.size_toArray, ← hl]
    exact Option.some.inj g1
  obtain ⟨j', k1, k2, k3, k4, k5⟩ := atI_get hz
  obtain ⟨w', ew', rw2⟩ := r2.get k2
  obtain ⟨tk, rfl⟩ := rw2
  have hl2 := r2.length
  refine wpAny_Compare1 ?_
  refine Subscript_ ?_
  refine Subscript_ ?_
  refine wpAny_Name (wpAny_loadName_local hk hx hn hm ?_) hd
  refine UnaryOp_ (wpAny_Constant_int (neg_int ?_))
  refine subscriptTail_builtinR (x := .ref t) (s := { s₂ with toks := s₂.toks + 1 + 1 }) l2.typeIs slot_list_getitem.lookup (wpAny_getItem_list_neg l2 (by omega) (by rw [List.size_toArray] <;> omega) (by omega) (by rw [hj]; simpa using ew) ⟨rfl, ?_⟩) (by rfl)
  refine wpAny_Constant_int ?_
  refine subscriptTail_builtinR (x := .int z tk) (s := { s₂ with toks := s₂.toks + 1 + 1 + 1 }) t2.typeIs slot_tuple_getitem.lookup (getItem_tuple (j := j') t2 (by omega) (by omega) (by rw [List.size_toArray, ← hl2]; exact k1) (by simpa using ew') ⟨rfl, ?_⟩) (by rfl)
  refine wpAny_Constant_int (PyProof.Rows.ne_int ?_)
  refine ⟨?_, ⟨s₂.heap, _, rfl, fun _ _ e => e⟩⟩
  rw [hb]
  simp [bne]
  by_cases hz0 : z = 0 <;> simp [hz0]
end GzT

/-! DatAny -/
set_option linter.all false
set_option maxRecDepth 100000
set_option maxHeartbeats 1000000
/-! DatAny: any(not isinstance(x, int) for x in t), isinstance(t, tuple). -/
namespace Dat
open PySem PySem.Spec L2 PyProof.Rows LamX
section
variable {K : PySem.W.Frag} {T : List (Addr × Str)} {ρ : List Addr} {H H1 : Hp} {m : Mem}
/-- the tables alone have grown -/
theorem Sto.grown (S : Sto K T ρ H m) (eN : ExtN H H1) (T1 : Tabs T H1) : Ext ρ H ρ H1 ∧ Sto K T ρ H1 m := by
  have kk : ∀ a o, H a = some o → (∀ ps, o ≠ .tbl ps) → H1 a = some o := fun a o h n => eN a o h n
  have E1 : Ext ρ H ρ H1 := ⟨List.prefix_refl _, fun a o h _ n => kk a o h n, fun _ h n => absurd h n⟩
  refine ⟨E1, S.len, S.nd, fun i c h => ?_, T1⟩
  obtain ⟨a, e, r⟩ := S.cell i c h
  obtain ⟨u, hu, cu⟩ := r.ish
  exact ⟨a, e, r.mono S E1 ((kk a u hu (fun ps z => by rw [z] at cu; cases cu)).trans hu.symm)⟩
theorem allI_vals : ∀ {l : List D} {vs : List V}, allI l = true → RelDs K ρ H l vs → ∃ ns : List Int, vs = ns.map V.int
  | _, _, _, .nil => ⟨[], rfl⟩
  | d :: l, _, h, .cons r rr => by
    cases r with
    | int i =>
      have h2 : allI l = true := by
        unfold allI at h ⊢
        simpa using h
      obtain ⟨ns, rfl⟩ := allI_vals h2 rr
      exact ⟨i :: ns, rfl⟩
    | _ =>
      unfold allI at h
      simp at h
end
section
variable {X : Cx} {T : List (Addr × Str)} {C : Ctl} {W : WX} {c : Ctx} {Pg : Prog} {lv : Nat}
theorem ok_anyNI {it : Expr} {e' : IE} {x : Str} {scope : Scope} {px p pos p1 p2 p3 p4 p5 gpos : Pos} (G : Good c C Pg lv T X W) (hg : c.isGl "any" = true) (hgen : c.gen = true) (hs : gnOk scope x = true) (hn : nameE it = true) (h : OkE X T C W it e') :
    OkE X T C W (.Call (.Name "any" p) [.GeneratorExp (.UnaryOp .Not (.Call (.Name "isinstance" p1) [.Name x p2, .Name "int" p3] [] p4) p5) [⟨.Name x px, it, [], 0⟩] scope gpos] [] pos) (.anyNI e') := by
  obtain ⟨cc, PP, hcode, TB, hmT, hu⟩ := G.gen hgen
  unfold gnOk at hs
  simp only [Bool.and_eq_true, decide_eq_true_eq, Bool.not_eq_true', List.all_eq_true] at hs
  obtain ⟨k1, k2, k3, k4, k5, k6, k7, k8⟩ := hs
  have S : GxR.GenS X.env scope x := ⟨k1, k2, fun y hy => (k3 y hy).1, k4, k5, fun y hy e => absurd e (k3 y hy).2⟩
  have fold : ∀ v, genFold it X.env v = pure v := fun v => by
    cases it <;> first | rfl | cases hn
  refine PE.imp (GxT.pe_anyNI G.room (G.gl hg) (G.blt _ (by decide +kernel)) hmT hu TB hcode S k6 k7 (G.blt _ (by decide +kernel)) (G.blt _ (by decide +kernel)) k8 h fold) fun σ H Q ⟨ρ, m, env, S, R, q⟩ => ?_
  unfold evalE at q
  refine ⟨ρ, m, env, S, R, q.bind.imp (fun d m1 ρ1 H1 E1 S1 q1 v r => ?_) fun _ _ _ _ _ _ _ z => z⟩
  cases r with
  | tup ht rr =>
    simp only at q1
    split at q1
    · rename_i hall
      obtain ⟨ns, rfl⟩ := allI_vals hall rr
      refine ⟨_, ns, rfl, ht, S1.tabs, fun H2 eN T2 => ?_⟩
      obtain ⟨E2, S2⟩ := S1.grown eN T2
      exact q1 ρ1 H2 E2 S2 _ (.bl false)
    · exact (show False from q1).elim
  | _ => exact (show False from q1).elim
theorem RelDs.back {K : PySem.W.Frag} {ρ : List Addr} {H : Hp} {ds : List D} {vs : List V} {i : Nat} {v : V} (h : RelDs K ρ H ds vs) (e : vs[i]? = some v) : ∃ d, ds[i]? = some d ∧ RelD K ρ H d v := by
  obtain ⟨hi, e⟩ := List.getElem?_eq_some_iff.mp e
  have hd : ds[i]? = some (ds[i]'(by rw [h.length]; exact hi)) := List.getElem?_eq_getElem _
  obtain ⟨v', e2, r⟩ := h.get hd
  rw [List.getElem?_eq_getElem hi, e] at e2
  cases e2
  exact ⟨_, hd, r⟩
theorem list_read {K : PySem.W.Frag} {T : List (Addr × Str)} {ρ : List Addr} {H : Hp} {m : Mem} {x : V} {d : D} {l : List D} (S : Sto K T ρ H m) (r : RelD K ρ H d x) (h : listD m d = some l) : ∃ a vs, x = .ref a ∧ SqL K H a vs ∧ RelDs K ρ H l vs := by
  cases r with
  | fro h1 h2 => cases h; exact ⟨_, _, rfl, h1.sqL, h2⟩
  | @ref i a e =>
    simp only [listD] at h
    split at h
    · rename_i l' hm
      cases h
      obtain ⟨vs, h1, h2⟩ := lst_at S e hm
      exact ⟨_, vs, rfl, SqL.of h1, h2⟩
    · cases h
  | _ => cases h
theorem at_rel {K : PySem.W.Frag} {ρ : List Addr} {H : Hp} {l : List D} {vs : List V} {i : Int} {d : D} (r : RelDs K ρ H l vs) (h : atI l i = some d) : ∃ v, atI vs i = some v ∧ RelD K ρ H d v := by
  unfold atI at h ⊢
  rw [← r.length]
  rw [Option.bind_eq_some_iff] at h
  obtain ⟨j, h1, h2⟩ := h
  obtain ⟨v, e, rv⟩ := r.get h2
  exact ⟨v, by rw [h1]; exact e, rv⟩
def trD (f : D → Bool) (l : List D) (i : Nat) : Bool := match l[i]? with
  | some d => f d
  | none => false
theorem range_any (f : D → Bool) : ∀ l : List D, ((List.range l.length).any (trD f l)) = l.any f
  | [] => rfl
  | x :: l => by
    rw [List.length_cons, List.range_succ_eq_map, List.any_cons, List.any_cons, List.any_map, ← range_any f l]
    rfl
theorem ok_anyL {it : Expr} {e' : IE} {x : Str} {scope : Scope} {j1 j2 j3 : Nat} {px p pos p1 p2 p3 p4 p5 p6 p7 p8 gpos : Pos} (G : Good c C Pg lv T X W) (hg : c.isGl "any" = true) (hgen : c.gen = true) (hs : gnOk0 scope x = true) (hn : subN it = true) (h : OkE X T C W it e') :
    OkE X T C W (.Call (.Name "any" p) [.GeneratorExp (.Compare (.Subscript (.Subscript (.Name x p1) (.UnaryOp .USub (.Constant (.int 1) j1 p2) p3) p4) (.Constant (.int 0) j2 p5) p6) [.NotEq] [.Constant (.int 0) j3 p7] p8) [⟨.Name x px, it, [], 0⟩] scope gpos] [] pos) (.anyL e') := by
  obtain ⟨cc, PP, hcode, TB, hmT, hu⟩ := G.gen hgen
  unfold gnOk0 at hs
  simp only [Bool.and_eq_true, decide_eq_true_eq, Bool.not_eq_true', List.all_eq_true] at hs
  obtain ⟨k1, k2, k3, k4, k5, k8⟩ := hs
  have S : GxR.GenS X.env scope x := ⟨k1, k2, fun y hy => (k3 y hy).1, k4, k5, fun y hy e => absurd e (k3 y hy).2⟩
  have fold : ∀ v, genFold it X.env v = pure v := fun v => by
    cases it <;> first | rfl | cases hn
  refine PE.imp (GzT.pe_anyB (C := GzT.CLast X.K) G.room (G.gl hg) (G.blt _ (by decide +kernel)) hmT hu TB hcode S (fun pins σ => GzT.elt_last k8) h fold) fun σ H Q ⟨ρ, m, env, S, R, q⟩ => ?_
  unfold evalE at q
  refine ⟨ρ, m, env, S, R, q.bind.imp (fun d m1 ρ1 H1 E1 S1 q1 v r => ?_) fun _ _ _ _ _ _ _ z => z⟩
  split at q1
  case h_2 => exact (show False from q1).elim
  rename_i l hl
  obtain ⟨b, hb, q2⟩ := liftO_then q1
  unfold anyZ at hb
  split at hb
  case isFalse => cases hb
  rename_i hall
  cases hb
  obtain ⟨a, vs, rfl, hq, rr⟩ := list_read S1 r hl
  refine ⟨a, vs, trD (fun d => decide ((lastZ m1 d).getD 0 ≠ 0)) l, rfl, hq, S1.tabs, fun i w hw => ?_, fun H2 eN T2 => ?_⟩
  · obtain ⟨d, hd, rd⟩ := rr.back hw
    have hz := List.all_eq_true.mp hall d (List.mem_of_getElem? hd)
    obtain ⟨z, hz⟩ := Option.isSome_iff_exists.mp hz
    have hz0 := hz
    unfold lastZ at hz
    split at hz
    case h_2 => cases hz
    rename_i ws hws
    split at hz
    case h_2 => cases hz
    rename_i zs hzs
    split at hz
    case h_2 => cases hz
    rename_i z' hz'
    cases hz
    obtain ⟨a1, us, rfl, hq1, r1⟩ := list_read S1 rd hws
    obtain ⟨vt, ht, rt⟩ := at_rel r1 hzs
    cases rt with
    | @tup t ys _ hT rT =>
    obtain ⟨vz, hvz, rz⟩ := at_rel rT hz'
    cases rz
    refine ⟨a1, t, us, ys, z, rfl, hq1, ht, hT, hvz, ?_⟩
    unfold trD
    rw [hd]
    simp only [hz0, Option.getD_some]
  · obtain ⟨E2, S2⟩ := S1.grown eN T2
    rw [← rr.length, range_any]
    exact q2 ρ1 H2 E2 S2 _ (.bl _)
theorem ok_isT {e : Expr} {e' : IE} {p p2 pos : Pos} (G : Good c C Pg lv T X W) (hg : c.isGl "isinstance" = true) (hr : c.isGl "tuple" = true) (pl : plainE e = true) (h : OkE X T C W e e') :
    OkE X T C W (.Call (.Name "isinstance" p) [e, .Name "tuple" p2] [] pos) (.isT e') := by
  have pt : PE X (.Name "tuple" p2) (tC (.ty "tuple")) := pe_bltn (G.gl hr) (G.blt _ (by decide +kernel)) (by decide +kernel) (show RelV (.ty "tuple") (.type "tuple") from rfl)
  have pa := pa_cons h (pa_cons pt pa_nil) (noStar pl _ _)
  refine PE.imp (pe_callB call_isi (G.gl hg) (G.blt _ (by decide +kernel)) (by decide +kernel) pa (isGl_of hg).2.2 (isGl_of hg).2.1 (noStar pl _ _) (noStars (es := [.Name "tuple" p2]) rfl)) fun σ H Q ⟨ρ, m, env, S, R, q⟩ => ?_
  unfold evalE at q
  refine ⟨ρ, m, env, S, R, q.bind.imp (fun d m1 ρ1 H1 E1 S1 q1 v r => ?_) fun _ _ _ _ _ _ _ z => z⟩
  cases r with
  | tup ht rr =>
    rename_i a vs l
    have ty : TyX X.K H1 (.ref a) (.type "tuple") := by
      rcases ht with (ht | ⟨o, ht⟩) | ⟨o, its, n, ht, hc, _⟩
      · exact .base (.tup ht)
      · exact .fTuple ht
      · exact .kTuple ht hc
    exact ⟨_, _, _, _, true, rfl, .ty "tuple", ty, by rfl, q1 ρ1 H1 (Ext.refl _ _) S1 _ (.bl true)⟩
  | non => exact ⟨_, _, _, _, false, rfl, .ty "tuple", .base .non, by rfl, q1 ρ1 H1 (Ext.refl _ _) S1 _ (.bl false)⟩
  | int i => exact ⟨_, _, _, _, false, rfl, .ty "tuple", .base (.int i), by rfl, q1 ρ1 H1 (Ext.refl _ _) S1 _ (.bl false)⟩
  | _ => exact (show False from q1).elim
end
end Dat

/-! DatSk -/
set_option linter.all false
set_option maxRecDepth 100000
set_option maxHeartbeats 4000000
/-! DatSk: sorted(x, key=lambda one: one[0] * c // one[1]). -/
namespace Dat
open PySem PySem.Spec L2 PyProof.Rows LamX
structure LamKey (one : Str) (c : Int) (params : Arguments) (body : Expr) (scope : Scope) : Prop where
  kind : scope.kind = .function
  co : scope.isCoroutine = false
  gen : scope.isGenerator = false
  nm : scope.names = [(one, .local)]
  db : (one == ("__debug__" : Str)) = false
  shape : keyE one c body = true
  bind : ∀ (q : Str) (pm cv ctv u : Value), bindArgs (PySem.W.kla_fn "<lambda>" q params body scope [] pm cv ctv) ⟨[u], []⟩ = pure [(one, u)]
theorem lam_key {prog : Program} {w : World} {A : Around} {s : Shared} {f c' a : Addr} {one q : Str} {params : Arguments} {body : Expr} {scope : Scope} {pm ctv : Value} {p d c : Int} {t1 t2 : Tok} (L : LamKey one c params body scope)
    (ho : s.heap.get? f = some (PySem.W.kla_obj "<lambda>" q params body scope [] pm c' ctv)) (hrec : s.heap.CodeRec (.ref c') q) (lim : s.heap.NoLimit) (dp : A.depth < recursionLimit)
    (ht : IsTup s.heap a #[.int p t1, .int d t2]) (g1 : IntMulOk p c) (g2 : d ≠ 0) (g3 : Builtin.divisionGoesByPylong (p * c) d = false) :
    wpAny (model prog w) A (call (.ref f) [.ref a]) (PySem.W.KeyPure (.int ((p * c).fdiv d)) s) (fun _ _ => False) s := by
  refine wpAny_call ?_
  refine PySem.W.kla_callFunE dp ho rfl L.co L.gen rfl hrec ?_
  rw [L.bind]
  refine wpAny_pure (wpAny_newFunctionEnv (fun y hy => by rw [L.nm] at hy; rw [List.mem_singleton.mp hy]; exact fun z => nomatch z) (fun y hy => by rw [List.mem_singleton.mp hy]; show scope.names.lookup one = _; rw [L.nm]; simp [List.lookup]) (fun h₁ hns hsb => ⟨lim.fresh _ hsb, ?_⟩) L.kind)
  have kp : ∀ b o, s.heap.get? b = some o → h₁.get? b = some o := fun b o e => hsb.extBut b o (Nat.ne_of_lt (Heap.lt_size e)) (Heap.get?_push_of_some _ e)
  refine PySem.W.kla_codeExpr ?_
  have hb := L.shape
  unfold keyE at hb
  split at hb
  · obtain ⟨e1, e2, e3⟩ := of_decide_eq_true hb
    subst e3
    have ht1 : IsTup h₁ a #[.int p t1, .int d t2] := by
      obtain ⟨o, e, r⟩ := ht
      exact ⟨o, kp _ _ e, r⟩
    have hk : scope.names.lookup one = some NameKind.local := by rw [L.nm]; simp [List.lookup]
    have look : ∀ {tk : Nat} {Q E : Value → Shared → Prop} {A : Around} {qual : Str} {func : Option Addr} {code : Value} {gl bl : Addr} {pos : Pos} {x : Str}, x = one → Q (.ref a) { s with heap := h₁, toks := tk } → wpAny (model prog w) A (eval (.Name x pos) (newEnv scope s.heap.objs.size gl [] qual func code none bl)) Q E { s with heap := h₁, toks := tk } := fun {tk Q E A qual func code gl bl pos x} hx q => by
      subst hx
      exact wpAny_Name (wpAny_loadName_local L.kind hk hns (by
        show List.lookup x [(x, Value.ref a)].reverse = _
        rw [List.reverse_singleton]
        exact List.lookup_cons_self) q) L.db
    refine wpAny_BinOp (wpAny_BinOp (Subscript_ (look e1 (wpAny_Constant_int (subscriptTail_builtinR (x := .int p t1) ht1.typeIs slot_tuple_getitem.lookup (getItem_tuple (j := 0) ht1 (by decide) (by decide) rfl rfl ⟨rfl, ?_⟩))))))
    refine wpAny_Constant_int (mul_int ?_ g1)
    refine Subscript_ (look e2 (wpAny_Constant_int (subscriptTail_builtinR (x := .int d t2) ht1.typeIs slot_tuple_getitem.lookup (getItem_tuple (j := 1) ht1 (by decide) (by decide) rfl rfl ⟨rfl, ?_⟩))))
    refine floordiv_int g2 ?_ (.inl g3)
    exact ⟨h₁, _, rfl, kp, .int _ _⟩
  · cases hb

/-- sorted(l, key=f), f such a lambda -/
def rSortQ (K : PySem.W.Frag) : List V → List V → Hp → VK → Prop := fun xs zs H Q => ∃ (l f c' : Addr) (one q : Str) (c : Int) (params : Arguments) (body : Expr) (scope : Scope) (bs : List (V × Int)), xs = [.ref l] ∧ zs = [.ref f] ∧ SqL K H l (bs.map (·.1)) ∧
  (∀ b ∈ bs, ∃ (a : Addr) (p d : Int), b.1 = .ref a ∧ SqT K H a [.int p, .int d] ∧ IntMulOk p c ∧ d ≠ 0 ∧ Builtin.divisionGoesByPylong (p * c) d = false ∧ b.2 = (p * c).fdiv d) ∧
  H f = some (LamO f q params body scope [] c') ∧ H c' = some (CodeO c' q) ∧ LamKey one c params body scope ∧ ∀ r, H r = none → Q (.ref r) (upd H r (.lst ((bs.mergeSort fun x y => decide (x.2 ≤ y.2)).map (·.1))))
theorem vals_each : ∀ {bs : List (V × Int)} {us : List Value}, Vals (bs.map (·.1)) us → PySem.W.EachIs (fun (u : Value) (b : V × Int) => L2.RelV b.1 u) us bs
  | [], _, .nil => .nil
  | _ :: _, _, .cons r rr => .cons r (vals_each rr)
theorem each_vals : ∀ {bs : List (V × Int)} {us : List Value}, PySem.W.EachIs (fun (u : Value) (b : V × Int) => L2.RelV b.1 u) us bs → Vals (bs.map (·.1)) us
  | _, _, .nil => .nil
  | _, _, .cons r rr => .cons r (each_vals rr)
section
variable {X : Cx}
theorem call_sortQ {n : Nat} (hr : Room n X.A) : L2.CallRK X (.builtin "sorted") [Str.ofString "key"] (rSortQ X.K) := by
  intro pins s σ H xs zs us ws Q I rx rz h
  obtain ⟨l, f, c', one, q, c, params, body, scope, bs, rfl, rfl, hl, hb, hf, hc, L, hq⟩ := h
  obtain ⟨u1, rfl, r1⟩ := rx.one
  obtain ⟨u2, rfl, r2⟩ := rz.one
  obtain rfl : u1 = Value.ref l := r1
  obtain rfl : u2 = Value.ref f := r2
  obtain ⟨its, rv, pl, hz⟩ := I.list hl
  rw [List.length_map] at hz
  have hu := hr.un
  refine PySem.W.sorted_key_data (b := false) (f := .ref f) (kw := [(Str.ofString "key", .ref f)]) (fun b : V × Int => .int b.2) pl.isList (vals_each rv) (PySem.W.AllAlike.of fun _ _ => by simp [PySem.W.alike]) (.inr fun d hd => ?_) hz (fun b _ => ?_) (ksk_s1 _ _) (fun _ => ksk_l1 _ _) (fun _ => ksk_t1 _ _) (fun v b hR hbm h' tk kp => ?_) fun out cc h' tk kp fr hD hlen eo => ?_
  · obtain ⟨b, _, rfl⟩ := List.mem_map.mp hd
    exact ⟨(fun z => nomatch z), fun xs z => nomatch z⟩
  · show X.A.units + 2 + 0 < cLine
    omega
  · obtain ⟨a, p, d, e1, ht, g1, g2, g3, e2⟩ := hb b hbm
    rw [e1] at hR
    obtain rfl : v = Value.ref a := hR
    have I' : Inv X pins σ H { s with heap := h', toks := tk } := I.kept (t' := tk) kp
    obtain ⟨pm, ctv, of1⟩ := lamO_at I'.hok hf
    obtain ⟨its2, rv2, p2, _⟩ := I'.tuple ht
    obtain ⟨w1, w2, rfl, ra, rb⟩ := rv2.two
    obtain ⟨t1, rfl⟩ := ra
    obtain ⟨t2, rfl⟩ := rb
    rw [e2]
    exact lam_key (s := { s with heap := h', toks := tk }) L of1 (NdefX.codeO_at I'.hok hc) I'.nolimit (by show X.A.depth < _; have := hr.dp; omega) p2 g1 g2 g3
  · rw [PySem.W.dataLe_int (fun b : V × Int => b.2)] at eo
    have rv3 := each_vals eo
    have I2 : Inv X pins σ (upd H (s.heap.objs.size + 1) (.lst ((bs.mergeSort fun x y => decide (x.2 ≤ y.2)).map (·.1)))) { s with heap := h', toks := tk } :=
      I.laid (t' := tk) kp (Nat.le_succ _) (show ObjOk X.prog X.w _ _ _ (.lst _) from ⟨by rw [List.length_map, List.length_mergeSort]; exact hz, out, cc, rv3, hD⟩)
    exact ⟨.ref _, _, I2, rfl, hq _ (I.hok.fresh (Nat.le_succ _))⟩
/-- a lambda's making, what it captures being nothing -/
theorem pe_lamK {T : List (Addr × Str)} {c P : Addr} {params : Arguments} {body : Expr} {scope : Scope} {pos : Pos} (TB : TabB X.base X.mg c P) (hcode : X.env.code = .ref c) (hm : (P, X.env.qual ++ "<lambda>") ∈ T) (hu : ∀ p ∈ T, p.1 = P → p.2 = X.env.qual ++ "<lambda>") (hdef : defaultsOf params X.env = ([], [])) (hfree : ∀ y ∈ scope.names, y.2 = .free → ∃ c, X.env.cells.lookup y.1 = some c) :
    PE X (.Lambda params body scope pos) (tLamV T (X.env.qual ++ "<lambda>") params body scope (cloFrom X.env.cells scope.names [])) := by
  refine ⟨fun pins s σ H Q I ⟨hT, hQ⟩ => ?_⟩
  obtain ⟨tab, hP, htri, hat⟩ := hT _ hm
  have bP : s.heap.BuiltinsAt X.mg P := TB.bm.keeps I.bk
  have rawP : s.heap.get? P = some { cls := .none, data := .fields tab } := I.hok P _ hP
  refine PySem.W.kla_eval hdef ?_
  have endV : ∀ {H1 : Hp} {h1 : Heap} {tk tk1 : Nat} {c' : Addr} {ctv : Value}, Inv X pins σ H1 { s with heap := h1, toks := tk1 } → ExtN H H1 → (∀ b, H1 b = none → H b = none) → Tabs T H1 → H1 c' = some (CodeO c' (X.env.qual ++ "<lambda>")) → H h1.objs.size = none →
      EP X pins σ Q (.ref h1.objs.size) { s with heap := h1.push (PySem.W.kla_obj "<lambda>" (X.env.qual ++ "<lambda>") params body scope (cloFrom X.env.cells scope.names []) ((X.mg "__name__").getD .none) c' ctv), toks := tk } := fun {H1 h1 tk tk1 c' ctv} J eN nn T1 hc hf => by
    have fr : H1 h1.objs.size = none := J.hok.fresh (Nat.le_refl _)
    refine ⟨.ref h1.objs.size, _, inv_lam (t' := tk) J, rfl, hQ _ c' _ (fun b o e n => ?_) (fun b e => nn b ?_) (T1.ext fun b o e => ?_) hf upd_same ?_⟩
    · exact (upd_ne (ne_of_none (eN b o e n) fr)).trans (eN b o e n)
    · by_cases hb : b = h1.objs.size
      · rw [hb]; exact fr
      · rw [← e]; exact (upd_ne hb).symm
    · exact (upd_ne (ne_of_none e fr)).trans e
    · exact (upd_ne (ne_of_none hc fr)).trans hc
  cases hc : codeAmong pos tab.toList with
  | some cv =>
    obtain ⟨c', rfl, hco⟩ := hat pos cv hc
    refine PySem.W.kla_makeFunctionHit (mg := X.mg) (c := c) (P := P) (ps := tab) (closure_ok hfree) I.ok.glob (I.mod.glob.keeps I.bk) hcode (TB.code.keeps I.bk) rawP htri hc bP fun ctv h' tk hx hsz => ?_
    exact endV (tk1 := tk) (I.kept hx) (ExtN.refl H) (fun _ e => e) hT hco (I.hok.fresh hsz)
  | none =>
    refine PySem.W.kla_makeFunction (mg := X.mg) (c := c) (P := P) (ps := tab) (closure_ok hfree) I.ok.glob (I.mod.glob.keeps I.bk) hcode (TB.code.keeps I.bk) rawP htri hc TB.gP bP fun c' ctv h' tk hx hge hlt hrec htb => ?_
    obtain ⟨c2, oc, vs, t, e2, hoc, hd, hv⟩ := hrec
    cases e2
    have nC : H c' = none := I.hok.fresh hge
    have J := inv_table (t' := tk) (more := #[rawInt pos.line, rawInt pos.col, .ref c']) (h' := h') I hP (fun b o hb e => hx b o hb e) htb hge ⟨oc, vs, t, hoc, hd, hv⟩
    have eN : ExtN H (upd (upd H P (.tbl (tab ++ #[rawInt pos.line, rawInt pos.col, .ref c']))) c' (CodeO c' (X.env.qual ++ "<lambda>"))) := fun b o e n => by
      have n1 : b ≠ P := fun z => n tab (Option.some.inj (e.symm.trans (by rw [z]; exact hP)))
      rw [upd_ne (ne_of_none e nC), upd_ne n1]
      exact e
    refine endV (tk1 := tk) J eN (fun b e => NdefX.upd_none (NdefX.upd_none e)) (fun p hp => ?_) upd_same (I.hok.fresh (Nat.le_trans hge (Nat.le_of_lt hlt)))
    by_cases hb : p.1 = P
    · have eL : (tab ++ #[rawInt pos.line, rawInt pos.col, .ref c']).toList = tab.toList ++ [rawInt pos.line, rawInt pos.col, .ref c'] := by simp
      rw [hu p hp hb, hb]
      refine ⟨_, by rw [upd_ne (ne_of_none hP nC), upd_same], by rw [eL]; exact PySem.TriplesOk_snoc _ _ _ _ htri, fun p' cv hcv => ?_⟩
      rw [eL] at hcv
      rcases among_app _ htri hcv with z | z
      · obtain ⟨c0, e1, e2⟩ := hat p' cv z
        exact ⟨c0, e1, eN _ _ e2 codeO_ne⟩
      · exact ⟨c', z, upd_same⟩
    · obtain ⟨ps', a1, a2, a3⟩ := hT p hp
      refine ⟨ps', by rw [upd_ne (ne_of_none a1 nC), upd_ne hb]; exact a1, a2, fun p' cv hcv => ?_⟩
      obtain ⟨c0, e1, e2⟩ := a3 p' cv hcv
      exact ⟨c0, e1, eN _ _ e2 codeO_ne⟩
end
theorem key_by {a1 : Arg} {body : Expr} {scope : Scope} (h : keyB a1.arg body scope = true) : LamKey a1.arg (keyC body) ⟨[], [a1], none, [], [], none, []⟩ body scope := by
  unfold keyB at h
  simp only [Bool.and_eq_true, decide_eq_true_eq, Bool.not_eq_true'] at h
  obtain ⟨h1, h2, h3, h4, h5, h7, h6⟩ := h
  refine ⟨h2, h3, h4, h5, h6, h1, fun q pm cv ctv u => ?_⟩
  obtain ⟨x, ps⟩ := a1
  have h7 : x = ("one" : Str) := h7
  subst h7
  rfl
theorem srt_inv {c : Ctx} {f : Str} {args : List Expr} {kws : List Keyword} {q : Expr × Int} (h : srtOf c f args kws = some q) : ∃ e kn a1 body scope p1 p2, args = [e] ∧ kws = [⟨some kn, .Lambda ⟨[], [a1], none, [], [], none, []⟩ body scope p1, p2⟩] ∧
    f = ("sorted" : Str) ∧ kn = ("key" : Str) ∧ c.isGl f = true ∧ c.lam = true ∧ keyB a1.arg body scope = true ∧ q = (e, keyC body) := by
  unfold srtOf at h
  split at h
  · split at h
    · rename_i hc
      cases h
      exact ⟨_, _, _, _, _, _, _, rfl, rfl, hc.1, hc.2.1, hc.2.2.1, hc.2.2.2.1, hc.2.2.2.2, rfl⟩
    · cases h
  · cases h
section
variable {X : Cx} {T : List (Addr × Str)} {C : Ctl} {W : WX} {c : Ctx} {Pg : Prog} {lv : Nat} {K : PySem.W.Frag} {ρ : List Addr} {H : Hp}
/-- data, its value, its key -/
def Tr (K : PySem.W.Frag) (ρ : List Addr) (H : Hp) (c : Int) (t : D × V × Int) : Prop := RelD K ρ H t.1 t.2.1 ∧ ∃ (a : Addr) (p d : Int), t.2.1 = .ref a ∧ SqT K H a [.int p, .int d] ∧ IntMulOk p c ∧ d ≠ 0 ∧ Builtin.divisionGoesByPylong (p * c) d = false ∧ t.2.2 = (p * c).fdiv d
theorem kq_rel {c k : Int} {x : D} {v : V} (h : kq c x = some k) (r : RelD K ρ H x v) : Tr K ρ H c (x, v, k) := by
  unfold kq at h
  split at h
  · rename_i p d
    split at h
    · rename_i hg
      cases h
      refine ⟨r, ?_⟩
      cases r with
      | @tup a vs l h1 h2 =>
      cases h2 with
      | cons b r2 =>
      cases b
      cases r2 with
      | cons b2 r3 =>
      cases b2
      cases r3
      exact ⟨a, p, d, rfl, h1, CMulX.ok hg.1, hg.2.1, hg.2.2, rfl⟩
    · cases h
  · cases h
theorem keys_rel {c : Int} : ∀ {l : List D} {vs : List V} {ks : List (D × Int)}, keysQ c l = some ks → RelDs K ρ H l vs → ∃ ts : List (D × V × Int), (∀ t ∈ ts, Tr K ρ H c t) ∧ ks = ts.map (fun t => (t.1, t.2.2)) ∧ vs = ts.map (fun t => t.2.1)
  | [], _, ks, h, .nil => by cases h; exact ⟨[], by simp, rfl, rfl⟩
  | x :: l, v :: vs, ks, h, .cons a r => by
    unfold keysQ at h
    split at h
    · rename_i k hk
      split at h
      · rename_i r' hr
        cases h
        obtain ⟨ts, h1, h2, h3⟩ := keys_rel hr r
        refine ⟨(x, v, k) :: ts, fun t ht => ?_, by rw [h2]; rfl, by rw [h3]; rfl⟩
        rcases List.mem_cons.mp ht with z | z
        · rw [z]; exact kq_rel hk a
        · exact h1 t z
      · cases h
    · cases h
theorem rel_map : ∀ {ts : List (D × V × Int)}, (∀ t ∈ ts, RelD K ρ H t.1 t.2.1) → RelDs K ρ H (ts.map (fun t => t.1)) (ts.map (fun t => t.2.1))
  | [], _ => .nil
  | t :: ts, h => .cons (h t (by simp)) (rel_map fun e he => h e (by simp [he]))
theorem ok_srtQ {e : Expr} {e' : IE} {a1 : Arg} {body : Expr} {scope : Scope} {k : Int} {p pos lpos kpos : Pos} (G : Good c C Pg lv T X W) (hl : c.lam = true) (hg : c.isGl ("sorted" : Str) = true) (pl : plainE e = true) (h : OkE X T C W e e') (L : LamKey a1.arg k ⟨[], [a1], none, [], [], none, []⟩ body scope) :
    OkE X T C W (.Call (.Name "sorted" p) [e] [⟨some ("key" : Str), .Lambda ⟨[], [a1], none, [], [], none, []⟩ body scope lpos, kpos⟩] pos) (.blt (.srtQ k) [e']) := by
  obtain ⟨cc, PP, hcode, TB, hmT, hu⟩ := (G.lam hl).code
  have hfree : ∀ y ∈ scope.names, y.2 = .free → ∃ c, X.env.cells.lookup y.1 = some c := fun y hy z => by
    rw [L.nm] at hy
    rw [List.mem_singleton.mp hy] at z
    cases z
  have hcl : cloFrom X.env.cells scope.names [] = [] := by rw [L.nm]; rfl
  refine PE.imp (pe_callBK (x := ("sorted" : Str)) (call_sortQ G.room) (G.gl hg) (G.blt _ (by decide +kernel)) PyProof.Rows.boot_sorted (ok_cons pl h ok_nil) (pk_cons (pe_lamK TB hcode hmT hu rfl hfree) pk_nil) (by decide) (by decide) (by rw [noStar pl] <;> rfl) (noStars (es := [e]) (by simp [plainEs, pl]))) fun σ H Q ⟨ρ, m, env, S, RE, q⟩ => ?_
  unfold evalE at q
  refine ⟨ρ, m, env, S, RE, q.bind.imp (fun ds m1 ρ1 H1 E1 S1 q1 vs r => ?_) fun _ _ _ _ _ _ _ z => z⟩
  refine ⟨S1.tabs, fun f c' H2 eN nn T2 nf hf hc => ?_⟩
  rw [hcl] at hf
  obtain ⟨E2, S2⟩ := S1.grown eN T2
  match ds, vs, r with
  | [], _, _ => exact (show False from q1).elim
  | _ :: _ :: _, _, _ => exact (show False from q1).elim
  | [x], _, .cons rx .nil =>
    have q2 : Then X.K T ρ1 H1 (srtD k x m1) (fun d _ ρ' H' => ∀ v, RelD X.K ρ' H' d v → Q v H') (exW X.K W σ) := q1
    unfold srtD at q2
    split at q2
    · rename_i l hl'
      split at q2
      · rename_i r' hr
        obtain ⟨a, ys, rfl, hy, r1⟩ := lst_read S2 (rx.mono S1 E2) hl'
        unfold sortQ at hr
        obtain ⟨ks, hk, rfl⟩ := Option.map_eq_some_iff.mp hr
        obtain ⟨ts, h1, h2, h3⟩ := keys_rel hk r1
        have e1 : (ks.mergeSort leQ).map Prod.fst = (ts.mergeSort (fun x y => decide (x.2.2 ≤ y.2.2))).map (fun t => t.1) := by
          rw [h2, ← List.map_mergeSort (r := fun x y : D × V × Int => decide (x.2.2 ≤ y.2.2)) (f := fun t : D × V × Int => (t.1, t.2.2)) (fun _ _ _ _ => rfl), List.map_map]
          rfl
        have e2 : ((ts.map fun t => (t.2.1, t.2.2)).mergeSort (fun x y : V × Int => decide (x.2 ≤ y.2))).map (·.1) = (ts.mergeSort (fun x y => decide (x.2.2 ≤ y.2.2))).map (fun t => t.2.1) := by
          rw [← List.map_mergeSort (r := fun x y : D × V × Int => decide (x.2.2 ≤ y.2.2)) (f := fun t : D × V × Int => (t.2.1, t.2.2)) (fun _ _ _ _ => rfl), List.map_map]
          rfl
        refine ⟨a, f, c', a1.arg, _, k, _, body, scope, ts.map (fun t => (t.2.1, t.2.2)), rfl, rfl, by rw [List.map_map]; rw [h3] at hy; exact hy, fun b hb => ?_, hf, hc, L, fun r np => ?_⟩
        · obtain ⟨t, ht, rfl⟩ := List.mem_map.mp hb
          exact (h1 t ht).2
        · rw [e1] at q2
          rw [e2]
          exact Then.alloc S2 (q2.ext E2) np (rel_map fun t ht => (h1 t (List.mem_mergeSort.mp ht)).1)
      · exact (show False from q2).elim
    · exact (show False from q2).elim
end
end Dat

/-! DatC2 -/
set_option linter.all false
set_option maxRecDepth 100000
set_option maxHeartbeats 1000000
/-! DatC2: comprehensions of two clauses. -/
namespace Dat
open PySem PySem.Spec L2 PyProof.Rows
theorem comp2L_ok {o : Wch} {body : D → Mem → Res (List D)} (hb : ∀ d m c p m', body d m ≠ .exn c p m') : ∀ {ds : List D} {m : Mem}, comp2L o body ds m ≠ .stuck → ∃ l m', comp2L o body ds m = .ok l m'
  | [], m, h => by
    unfold comp2L at h ⊢
    split at h
    · exact ⟨[], m, by rw [if_pos (by assumption)]⟩
    · exact absurd rfl h
  | d :: ds, m, h => by
    unfold comp2L at h ⊢
    split at h
    · rename_i hc
      rw [if_pos hc]
      cases e : body d m with
      | stuck => rw [e] at h; exact absurd rfl h
      | exn c p m' => exact absurd e (hb _ _ _ _ _)
      | ok r m1 =>
        rw [e] at h
        simp only [Res.bind] at h ⊢
        cases e2 : comp2L o body ds m1 with
        | stuck => rw [e2] at h; exact absurd rfl h
        | exn c p m' =>
          exfalso
          have := comp2L_ok hb (ds := ds) (m := m1) (o := o) (by rw [e2]; intro z; cases z)
          obtain ⟨l, m2, z⟩ := this
          rw [e2] at z
          cases z
        | ok l m2 => exact ⟨_, _, rfl⟩
    · exact absurd rfl h
section
variable {X : Cx} {T : List (Addr × Str)} {C : Ctl} {W : WX} {c : Ctx} {Pg : Prog} {lv : Nat}
/-- one turn of the inner walk -/
noncomputable def compB1 (C : Ctl) (tg1 : Tg) (e : IE) (vs1 : List Nat) (env2 : EnvD) : D → Mem → Res (Option D) := fun d1 m4 =>
  match asgT m4 tg1 d1 (wipeE env2 vs1) with
  | some env3 => (match evalE e C env3 m4 with
    | .ok x m5 => .ok (some x) m5
    | _ => .stuck)
  | none => .stuck
theorem compB1_noex {tg1 : Tg} {e : IE} {vs1 : List Nat} {env : EnvD} : ∀ d m k p m', compB1 C tg1 e vs1 env d m ≠ .exn k p m' := by
  intro d m k p m' h
  unfold compB1 at h
  repeat' split at h
  all_goals cases h
/-- one turn of the outer walk -/
noncomputable def compB2 (C : Ctl) (tg : Tg) (tg1 : Tg) (v1 : Nat) (e : IE) (own vs1 : List Nat) (env : EnvD) : D → Mem → Res (List D) := fun d m2 =>
  match asgT m2 tg d (wipeE env own) with
  | some env2 => (match env2[v1]? with
    | some (some (.tup l1)) => (match compL .none (compB1 C tg1 e vs1 env2) l1 m2 with
      | .ok l m5 => .ok l m5
      | _ => .stuck)
    | _ => .stuck)
  | none => .stuck
theorem sqT_side {K : PySem.W.Frag} {H : Hp} {a p : Addr} {vs : List V} {xs ys : List V} (hp : H p = some (.lst xs)) (h : SqT K H a vs) : SqT K (upd H p (.lst ys)) a vs := by
  have k : ∀ a o, H a = some o → cellish o = false → upd H p (.lst ys) a = some o := fun a o h c => by
    rw [upd_ne]
    · exact h
    · rintro rfl
      rw [hp] at h
      cases h
      cases c
  rcases h with (h | ⟨o, h⟩) | h
  · exact .inl (.inl (k _ _ h rfl))
  · exact .inl (.inr ⟨o, k _ _ h rfl⟩)
  · exact .inr h
theorem renv_read {K : PySem.W.Frag} {ρ : List Addr} {H H' : Hp} {env : EnvD} {σ : L2.St} (k : ∀ a o, H a = some o → cellish o = false → H' a = some o) (R : REnv K ρ H env σ) : REnv K ρ H' env σ := ⟨R.1, fun i d h => by
  obtain ⟨v, h1, h2⟩ := R.2 i d h
  exact ⟨v, h1, h2.read k⟩⟩
theorem compB2_noex {tg tg1 : Tg} {it1 : Nat} {e : IE} {own vs1 : List Nat} {env : EnvD} : ∀ d m k p m', compB2 C tg tg1 it1 e own vs1 env d m ≠ .exn k p m' := by
  intro d m k p m' h
  unfold compB2 at h
  repeat' split at h
  all_goals cases h
theorem comp2_tlc {scope : Scope} {tg' tg1' : Tg} {it' : II} {it1' : Nat} {e' : IE} (hv : (tgVars tg').all (fun i => decide (i ∈ ownI c.N scope)) = true) {σ : L2.St} {H : Hp} {Q : VK} (h : tE X.K T C W (.comp2 tg' it' tg1' it1' e' (ownI c.N scope) (tgVars tg1')) σ H Q) :
    tLc2 (tI X.K T C W it') (gT X.K T tg') (tT X.K T C W0 (.con (.bl true))) (fun σ H R => tE X.K T C W0 (.var it1') σ H fun x H1 => ∃ a, x = .ref a ∧ (((∃ xs, SqL X.K H1 a xs) ∧ R (Itl X.K a) H1) ∨ ((∃ xs, SqT X.K H1 a xs) ∧ R (Itt X.K a) H1))) (gT X.K T tg1') (tT X.K T C W0 (.con (.bl true))) (tE X.K T C W0 e') ((ownOf c.N scope).map (·.2)) (tgVars tg1') σ H Q := by
  have hv' : ∀ i ∈ tgVars tg', i ∈ ownI c.N scope := fun i h => of_decide_eq_true (List.all_eq_true.mp hv i h)
  obtain ⟨ρ, m, env, S, R, q⟩ := h
  unfold evalE at q
  refine ⟨ρ, m, env, S, R, q.bind.imp (fun I m1 ρ1 H1 E1 S1 q1 J hJ D hD => ?_) fun _ _ _ _ _ _ _ z => z⟩
  have R1 := R.mono S E1
  generalize hB : compB2 C tg' tg1' it1' e' (ownI c.N scope) (tgVars tg1') env = B
  have q1 : Then X.K T ρ1 H1 ((comp2L I.2 B I.1 m1).bind fun l m2 => if l.length ≤ sizeLine then .ok (.ref m2.length) (m2 ++ [.lst l]) else .stuck)
      (fun d _ ρ' H' => ∀ v, RelD X.K ρ' H' d v → Q v H') (exW X.K W σ) := by
    rw [← hB]
    exact q1
  let Inv (i : Nat) (Hc : Hp) : Prop := ∃ ρc mc accD accV, Ext ρ1 H1 ρc Hc ∧ Sto X.K T ρc Hc mc ∧ Hc D = some (.lst accV) ∧ RelDs X.K ρc Hc accD accV ∧ D ∉ ρc ∧
    Then X.K T ρ1 H1 ((comp2L I.2 B (I.1.drop i) mc).bind fun l m2 => if (accD ++ l).length ≤ sizeLine then .ok (.ref m2.length) (m2 ++ [.lst (accD ++ l)]) else .stuck)
      (fun d _ ρ' H' => ∀ v, RelD X.K ρ' H' d v → Q v H') (exW X.K W σ)
  refine ⟨fun i k Hc => k = I.1.length - i ∧ i ≤ I.1.length ∧ Inv i Hc, ⟨I.1.length, by simp, Nat.zero_le _, ?_⟩, ?_⟩
  · obtain ⟨E2, S2⟩ := S1.aside (o := .lst []) hD
    refine ⟨ρ1, m1, [], [], E2, S2, upd_same, .nil, fun z => ?_, by simpa using q1⟩
    obtain ⟨o, h, _⟩ := S1.at_ z
    rw [hD] at h
    cases h
  · rintro i k Hc ⟨rfl, hi, ρc, mc, accD, accV, Ec, Sc, hDc, ra, nD, qc⟩
    by_cases hlt : i < I.1.length
    · refine .inr ?_
      have hd : I.1[i]? = some I.1[i] := List.getElem?_eq_getElem hlt
      rw [List.drop_eq_getElem_cons hlt] at qc
      have hne := qc.ne
      have hBn : ∀ d m c p m', B d m ≠ .exn c p m' := by rw [← hB]; exact compB2_noex
      obtain ⟨l, m9, el⟩ := comp2L_ok hBn (o := I.2) (ds := I.1[i] :: I.1.drop (i + 1)) (m := mc) (fun z => hne (by rw [z] <;> rfl))
      have el0 := el
      unfold comp2L at el
      split at el
      case isFalse => cases el
      rename_i hc
      obtain ⟨hgo, hyld⟩ := (hJ i ρc Hc mc Ec Sc hc).1 _ hd
      refine ⟨hgo, fun H' => I.1.length - (i + 1) = I.1.length - (i + 1) ∧ i + 1 ≤ I.1.length ∧ Inv (i + 1) H', fun H' z => ⟨I.1.length - (i + 1), by omega, z⟩, fun x H2 y => ?_⟩
      obtain ⟨E2, S2, rx⟩ := hyld x H2 y
      have hD2 : H2 D = some (.lst accV) := E2.keep D _ hDc nD fun _ z => nomatch z
      cases eb : B I.1[i] mc with
      | stuck => rw [eb] at el; cases el
      | exn _ _ _ => exact absurd eb (hBn _ _ _ _ _)
      | ok r m3 =>
      rw [eb] at el
      simp only [Res.bind] at el
      have eb0 := eb
      rw [← hB] at eb
      unfold compB2 at eb
      split at eb
      case h_2 => cases eb
      rename_i env2 ea
      have E12 := Ec.trans E2
      refine ⟨ρc, mc, wipeE env (ownI c.N scope), I.1[i], env2, S2, (R1.mono S1 E12).wipe _, rx, ea, fun σ2 R2 b2 => ?_⟩
      have hw : L2.wipe σ2 (ownI c.N scope) = L2.wipe σ (ownI c.N scope) := (b2.sub hv').wipe.trans (wipe_wipe (vs := ownI c.N scope) (σ := σ))
      refine ⟨hw, ρc, mc, env2, S2, R2, ?_⟩
      rw [evalE]
      intro ρ3 H3 E3 S3
      refine ⟨true, rfl, ?_⟩
      dsimp only
      rw [if_pos rfl]
      have hD3 : H3 D = some (.lst accV) := E3.keep D _ hD2 nD fun _ z => nomatch z
      have nD3 : D ∉ ρ3 := fun z => by
        obtain ⟨_, e⟩ := E3.new D z nD _ hD2
        cases e
      have R3 := R2.mono S2 E3
      refine ⟨ρ3, mc, env2, S3, R3, ?_⟩
      -- the inner walk
      split at eb
      case h_2 => cases eb
      rename_i l1 ev1
      rw [evalE, ev1]
      intro ρ4 H4 E4 S4 w rw4
      cases rw4 with
      | @tup a1 ws _ ht1 rl1 =>
      refine ⟨a1, rfl, .inr ⟨⟨ws, ht1⟩, ?_⟩⟩
      have hD4 : H4 D = some (.lst accV) := E4.keep D _ hD3 nD3 fun _ z => nomatch z
      have nD4 : D ∉ ρ4 := fun z => by
        obtain ⟨_, e⟩ := E4.new D z nD3 _ hD3
        cases e
      have R4 := R3.mono S3 E4
      have ra4 := ((ra.mono Sc E2).mono S2 E3).mono S3 E4
      have E14 : Ext ρ1 H1 ρ4 H4 := (E12.trans E3).trans E4
      let InvI (j : Nat) (Hj : Hp) : Prop := ∃ ρj mj accJ accW, Ext ρ1 H1 ρj Hj ∧ SqT X.K Hj a1 ws ∧ RelDs X.K ρj Hj l1 ws ∧ REnv X.K ρj Hj env2 σ2 ∧ Sto X.K T ρj Hj mj ∧ Hj D = some (.lst accW) ∧ RelDs X.K ρj Hj accJ accW ∧ D ∉ ρj ∧
        Then X.K T ρ1 H1 ((compL .none (compB1 C tg1' e' (tgVars tg1') env2) (l1.drop j) mj).bind fun r m5 => (comp2L I.2 B (I.1.drop (i + 1)) m5).bind fun l m2 => if (accJ ++ (r ++ l)).length ≤ sizeLine then .ok (.ref m2.length) (m2 ++ [.lst (accJ ++ (r ++ l))]) else .stuck)
          (fun d _ ρ' H' => ∀ v, RelD X.K ρ' H' d v → Q v H') (exW X.K W σ)
      refine ⟨fun j k Hj => k = l1.length - j ∧ j ≤ l1.length ∧ InvI j Hj, ⟨l1.length, by simp, Nat.zero_le _, ρ4, mc, accD, accV, E14, ht1, rl1, R4, S4, hD4, ra4, nD4, ?_⟩, ?_⟩
      · rw [List.drop_zero]
        have e5 : comp2L I.2 B (I.1[i] :: I.1.drop (i + 1)) mc = (comp2L I.2 B (I.1.drop (i + 1)) m3).bind fun l' m2 => .ok (r ++ l') m2 := by
          rw [comp2L, if_pos hc, eb0]
          rfl
        rw [e5] at qc
        cases e7 : compL .none (compB1 C tg1' e' (tgVars tg1') env2) l1 mc with
        | stuck => rw [e7] at eb; cases eb
        | exn _ _ _ => rw [e7] at eb; cases eb
        | ok l5 m5 =>
          rw [e7] at eb
          cases eb
          cases e6 : comp2L I.2 B (I.1.drop (i + 1)) m3 with
          | stuck => rw [e6] at qc; exact (show False from qc).elim
          | exn a b c => rw [e6] at qc; simp only [Res.bind]; rw [e6]; exact qc
          | ok l' m2 =>
            rw [e6] at qc
            simp only [Res.bind]
            rw [e6]
            exact qc
      · rintro j k Hj ⟨rfl, hj, ρj, mj, accJ, accW, Ej, htj, rlj, Rj, Sj, hDj, rj, nDj, qj⟩
        by_cases hltj : j < l1.length
        · refine .inr ?_
          have hdj : l1[j]? = some l1[j] := List.getElem?_eq_getElem hltj
          rw [List.drop_eq_getElem_cons hltj] at qj
          have hnej := qj.ne
          obtain ⟨lj, m9j, elj⟩ := compL_ok (compB1_noex (C := C) (tg1 := tg1') (e := e') (vs1 := tgVars tg1') (env := env2)) (o := .none) (ds := l1[j] :: l1.drop (j + 1)) (m := mj) (fun z => hnej (by rw [z] <;> rfl))
          have elj0 := elj
          unfold compL at elj
          split at elj
          case isFalse => cases elj
          rename_i hcj
          obtain ⟨vj, hvj, rvj⟩ := rlj.get hdj
          have hgoj : (Itt X.K a1).go j Hj := ⟨ws, vj, htj, hvj⟩
          refine ⟨hgoj, fun H' => l1.length - (j + 1) = l1.length - (j + 1) ∧ j + 1 ≤ l1.length ∧ InvI (j + 1) H', fun H' z => ⟨l1.length - (j + 1), by omega, z⟩, fun x1 H5 y1 => ?_⟩
          obtain ⟨rfl, y1⟩ := y1
          have ex1 := y1 ws htj
          rw [hvj] at ex1
          cases ex1
          have E5 : Ext ρj H5 ρj H5 := Ext.refl _ _
          have S5 := Sj
          have rx1 := rvj
          have hD5 : H5 D = some (.lst accW) := E5.keep D _ hDj nDj fun _ z => nomatch z
          cases ebj : compB1 C tg1' e' (tgVars tg1') env2 l1[j] mj with
          | stuck => rw [ebj] at elj; cases elj
          | exn _ _ _ => exact absurd ebj (compB1_noex _ _ _ _ _)
          | ok rj1 m6 =>
          rw [ebj] at elj
          simp only [Res.bind] at elj
          have ebj0 := ebj
          unfold compB1 at ebj
          split at ebj
          case h_2 => cases ebj
          rename_i env3 eaj
          refine ⟨ρj, mj, wipeE env2 (tgVars tg1'), l1[j], env3, S5, Rj.wipe _, rx1, eaj, fun σ3 R5 b3 => ?_⟩
          have hw3 : L2.wipe σ3 (tgVars tg1') = L2.wipe σ2 (tgVars tg1') := b3.wipe.trans (wipe_wipe (vs := tgVars tg1') (σ := σ2))
          refine ⟨hw3, ρj, mj, env3, S5, R5, ?_⟩
          rw [evalE]
          intro ρ6 H6 E6 S6
          refine ⟨true, rfl, ?_⟩
          dsimp only
          rw [if_pos rfl]
          have hD6 : H6 D = some (.lst accW) := E6.keep D _ hD5 nDj fun _ z => nomatch z
          have nD6 : D ∉ ρ6 := fun z => by
            obtain ⟨_, e⟩ := E6.new D z nDj _ hD5
            cases e
          refine ⟨ρ6, mj, env3, S6, R5.mono S5 E6, ?_⟩
          cases ee : evalE e' C env3 mj with
          | stuck => rw [ee] at ebj; cases ebj
          | exn _ _ _ => rw [ee] at ebj; cases ebj
          | ok z mzz =>
            rw [ee] at ebj
            cases ebj
            intro ρ7 H7 E7 S7 v rv
            have hD7 : H7 D = some (.lst accW) := E7.keep D _ hD6 nD6 fun _ z => nomatch z
            have nD7 : D ∉ ρ7 := fun z => by
              obtain ⟨_, e⟩ := E7.new D z nD6 _ hD6
              cases e
            have r7 := ((rj.mono Sj E5).mono S5 E6).mono S6 E7
            have kk : ∀ a o, H7 a = some o → cellish o = false → upd H7 D (.lst (accW ++ [v])) a = some o := fun a o h cc => by
              rw [upd_ne]
              · exact h
              · rintro rfl
                rw [hD7] at h
                cases h
                cases cc
            have e8 : compL .none (compB1 C tg1' e' (tgVars tg1') env2) (l1[j] :: l1.drop (j + 1)) mj = (compL .none (compB1 C tg1' e' (tgVars tg1') env2) (l1.drop (j + 1)) m6).bind fun l' m2 => .ok (z :: l') m2 := by
              rw [compL, if_pos hcj, ebj0]
              rfl
            rw [e8] at qj
            have small : accJ.length < sizeLine := by
              have h9 := qj.ne
              cases e9 : compL .none (compB1 C tg1' e' (tgVars tg1') env2) (l1.drop (j + 1)) m6 with
              | stuck => rw [e9] at h9; exact absurd rfl h9
              | exn a b c => rw [e9] at elj; cases elj
              | ok l' m2 =>
                rw [e9] at h9
                simp only [Res.bind] at h9
                cases e10 : comp2L I.2 B (I.1.drop (i + 1)) m2 with
                | stuck => rw [e10] at h9; exact absurd rfl h9
                | exn a b c =>
                  exfalso
                  obtain ⟨_, _, z9⟩ := comp2L_ok hBn (o := I.2) (ds := I.1.drop (i + 1)) (m := m2) (by rw [e10]; intro z; cases z)
                  rw [e10] at z9
                  cases z9
                | ok l2 m22 =>
                  rw [e10] at h9
                  simp only at h9
                  split at h9
                  · rename_i hz
                    simp at hz
                    omega
                  · exact absurd rfl h9
            refine ⟨accW, hD7, by rw [← r7.length]; exact small, rfl, hltj, ρ7, m6, accJ ++ [z], accW ++ [v], (((Ej.trans E5).trans E6).trans E7).side hD, sqT_side hD7 (S6.sqT E7 (S5.sqT E6 htj)), (((rlj.mono S5 E6).mono S6 E7).read kk), renv_read kk ((Rj.mono S5 E6).mono S6 E7), S7.side hD7 nD7, upd_same, (r7.append (.cons rv .nil)).read kk, nD7, ?_⟩
            cases e9 : compL .none (compB1 C tg1' e' (tgVars tg1') env2) (l1.drop (j + 1)) m6 with
              | stuck => rw [e9] at qj; exact qj
              | exn a b c => rw [e9] at qj; exact qj
              | ok l' m2 =>
                rw [e9] at qj
                simp only [Res.bind, List.append_assoc, List.cons_append, List.nil_append] at qj ⊢
                exact qj
        · refine .inl ?_
          have e0 : j = l1.length := by omega
          subst e0
          rw [List.drop_length] at qj
          unfold compL at qj
          split at qj
          · rename_i hcj
            refine ⟨⟨ws, htj, by rw [← rlj.length]; exact Nat.le_refl _⟩, rfl, hlt, ρj, mj, accJ, accW, Ej, Sj, hDj, rj, nDj, ?_⟩
            simpa only [Res.bind, List.nil_append] using qj
          · exact (show False from qj).elim
    · refine .inl ?_
      have e0 : i = I.1.length := by omega
      subst e0
      rw [List.drop_length] at qc
      unfold comp2L at qc
      split at qc
      · rename_i hc
        refine ⟨(hJ _ ρc Hc mc Ec Sc hc).2 (Nat.le_refl _), ?_⟩
        simp only [Res.bind, List.append_nil] at qc
        split at qc
        · have E9 : Ext ρ1 H1 (ρc ++ [D]) Hc := ⟨Ec.pre.trans (List.prefix_append _ _), Ec.keep, fun a h n => by
            rcases List.mem_append.mp h with h | h
            · exact Ec.new a h n
            · rw [List.mem_singleton.mp h, hD]; exact fun o h => nomatch h⟩
          refine qc _ _ E9 (Sc.adopt nD ⟨accV, hDc, ra⟩) _ (.ref ?_)
          rw [← Sc.len]
          simp
        · exact (show False from qc).elim
      · exact (show False from qc).elim
theorem ok_comp2 {tg it elt tg1 : Expr} {y : Str} {py : Pos} {scope : Scope} {pos : Pos} {tg' tg1' : Tg} {it' : II} {v1 : Nat} {e' : IE} (G : Good c C Pg lv T X W) (hb : blkC c.N c.sc scope (ownOf c.N scope) = true) (pit : plainE it = true)
    (hi : OkI X T C W tg it it') (hy : (blkX c scope).slot y = some v1)
    (hg : ∀ (s : Shared) (H : Hp) (Ca : Addr) (cl : List (Str × Addr)) (fp : List Addr), PG (X.blk s H scope (compEnvC scope cl Ca X.env) fp) tg (gT X.K T tg'))
    (hg1 : ∀ (s : Shared) (H : Hp) (Ca : Addr) (cl : List (Str × Addr)) (fp : List Addr), PG (X.blk s H scope (compEnvC scope cl Ca X.env) fp) tg1 (gT X.K T tg1'))
    (he : ∀ (s : Shared) (H : Hp) (Ca : Addr) (cl : List (Str × Addr)) (fp : List Addr), PE (X.blk s H scope (compEnvC scope cl Ca X.env) fp) elt (tE X.K T C W0 e'))
    (hv : (tgVars tg').all (fun i => decide (i ∈ ownI c.N scope)) = true) (hv1 : (tgVars tg1').all (fun i => decide (i ∈ ownI c.N scope)) = true) :
    OkE X T C W (.ListComp elt [⟨tg, it, [], 0⟩, ⟨tg1, .Name y py, [], 0⟩] scope pos) (.comp2 tg' it' tg1' v1 e' (ownI c.N scope) (tgVars tg1')) := by
  have ok : BlkOk X.N X.env.scope scope (ownOf c.N scope) := by
    rw [G.hN, G.sc]
    exact blkOk_by hb
  have hv1' : ∀ i ∈ tgVars tg1', i ∈ (ownOf c.N scope).map (·.2) := fun i h => of_decide_eq_true (List.all_eq_true.mp hv1 i h)
  refine PE.imp (pe_lc2 (own := ownOf c.N scope) (vs1 := tgVars tg1') (tt := tT X.K T C W0 (.con (.bl true))) (tt1 := tT X.K T C W0 (.con (.bl true))) (te := tE X.K T C W0 e') (g := gT X.K T tg') (g1 := gT X.K T tg1') (wi1 := (fun σ H R => tE X.K T C W0 (.var v1) σ H fun x H1 => ∃ a, x = .ref a ∧ (((∃ xs, SqL X.K H1 a xs) ∧ R (Itl X.K a) H1) ∨ ((∃ xs, SqT X.K H1 a xs) ∧ R (Itt X.K a) H1)))) G.calm G.nd hi ok hv1' hg (fun s H Ca cl fp => ok_yes) (fun s H Ca cl fp => pi_lt (ok_var (C := C) (T := T) (W := W0) (G.blk scope s H Ca cl fp) hy)) hg1 (fun s H Ca cl fp => ok_yes) he (noFold pit _)) fun σ H Q h => ?_
  exact comp2_tlc hv h
theorem oks_setc2 {tg it elt tg1 : Expr} {x y : Str} {px py : Pos} {scope : Scope} {pos spos : Pos} {tg' tg1' : Tg} {it' : II} {v1 i : Nat} {e' : IE} (G : Good c C Pg lv T X W) (hb : blkC c.N c.sc scope (ownOf c.N scope) = true) (pit : plainE it = true)
    (hx : X.N[i]? = some x) (hxl : X.env.scope.names.lookup x = some .local) (hsw : swapsWith (.ListComp elt [⟨tg, it, [], 0⟩, ⟨tg1, .Name y py, [], 0⟩] scope pos) (some (.Name x px)) spos.line X.env = pure true)
    (hi : OkI X T C W tg it it') (hy : (blkX c scope).slot y = some v1)
    (hg : ∀ (s : Shared) (H : Hp) (Ca : Addr) (cl : List (Str × Addr)) (fp : List Addr), PG (X.blk s H scope (compEnvC scope cl Ca X.env) fp) tg (gT X.K T tg'))
    (hg1 : ∀ (s : Shared) (H : Hp) (Ca : Addr) (cl : List (Str × Addr)) (fp : List Addr), PG (X.blk s H scope (compEnvC scope cl Ca X.env) fp) tg1 (gT X.K T tg1'))
    (he : ∀ (s : Shared) (H : Hp) (Ca : Addr) (cl : List (Str × Addr)) (fp : List Addr), PE (X.blk s H scope (compEnvC scope cl Ca X.env) fp) elt (tE X.K T C W0 e'))
    (hv1 : (tgVars tg1').all (fun i => decide (i ∈ ownI c.N scope)) = true) :
    PS X (.Assign [.Name x px] (.ListComp elt [⟨tg, it, [], 0⟩, ⟨tg1, .Name y py, [], 0⟩] scope pos) spos) (tAsg (tLc2 (tI X.K T C W it') (gT X.K T tg') (tT X.K T C W0 (.con (.bl true))) (fun σ H R => tE X.K T C W0 (.var v1) σ H fun x H1 => ∃ a, x = .ref a ∧ (((∃ xs, SqL X.K H1 a xs) ∧ R (Itl X.K a) H1) ∨ ((∃ xs, SqT X.K H1 a xs) ∧ R (Itt X.K a) H1))) (gT X.K T tg1') (tT X.K T C W0 (.con (.bl true))) (tE X.K T C W0 e') ((ownOf c.N scope).map (·.2)) (tgVars tg1')) (gName i)) := by
  have ok : BlkOk X.N X.env.scope scope (ownOf c.N scope) := by
    rw [G.hN, G.sc]
    exact blkOk_by hb
  have hv1' : ∀ i ∈ tgVars tg1', i ∈ (ownOf c.N scope).map (·.2) := fun i h => of_decide_eq_true (List.all_eq_true.mp hv1 i h)
  exact ps_setLc2 (own := ownOf c.N scope) (vs1 := tgVars tg1') G.calm G.nd hx hxl hsw hi ok hv1' hg (fun s H Ca cl fp => ok_yes) (fun s H Ca cl fp => pi_lt (ok_var (C := C) (T := T) (W := W0) (G.blk scope s H Ca cl fp) hy)) hg1 (fun s H Ca cl fp => ok_yes) he (noFold pit _)
end
end Dat

/-! Dat13 -/
set_option linter.all false
set_option maxRecDepth 100000
set_option maxHeartbeats 2000000
/-! Dat13: every compiled expression. -/
namespace Dat
open PySem PySem.Spec L2 PyProof.Rows

def SndE (n : Nat) : Prop := ∀ (c : Ctx) (e : Expr) (ir : IE), cE n c e = some ir → ∀ (C : Ctl) (Pg : Prog) (lv : Nat) (T : List (Addr × Str)) (X : Cx) (W : WX), Good c C Pg lv T X W → OkE X T C W e ir ∧ OkT X T C W e ir
def SndEs (n : Nat) : Prop := ∀ (c : Ctx) (es : List Expr) (l : List IE), cEs n c es = some l → ∀ (C : Ctl) (Pg : Prog) (lv : Nat) (T : List (Addr × Str)) (X : Cx) (W : WX), Good c C Pg lv T X W → OkA X T C W es l
def SndO (n : Nat) : Prop := ∀ (c : Ctx) (e : Option Expr) (ir : IE), cO n c e = some ir → ∀ (C : Ctl) (Pg : Prog) (lv : Nat) (T : List (Addr × Str)) (X : Cx) (W : WX), Good c C Pg lv T X W → PO X e (tO X.K T C W e.isSome ir)
def SndI (n : Nat) : Prop := ∀ (c : Ctx) (tg e : Expr) (ir : II), cI n c tg e = some ir → ∀ (C : Ctl) (Pg : Prog) (lv : Nat) (T : List (Addr × Str)) (X : Cx) (W : WX), Good c C Pg lv T X W → OkI X T C W tg e ir
theorem cEs_plain {c : Ctx} : ∀ {n : Nat} {es : List Expr} {l : List IE}, cEs n c es = some l → plainEs es = true
  | 0, _, _, h => by simp [cEs] at h
  | n + 1, [], _, _ => rfl
  | n + 1, e :: es, l, h => by
    simp only [cEs, Option.bind_eq_some_iff] at h
    obtain ⟨e', he, r', hr, _⟩ := h
    simp [plainEs, cE_plain he, cEs_plain hr]
theorem pw_of {X : Cx} {op : BoolOp} {vs : List Expr} {pos : Pos} {t : TT} (h : PT X (.BoolOp op vs pos) t) : PW X (.BoolOp op vs pos) t := ⟨fun whole pins s σ H Q I q => by
  have e : ∀ wh, PySem.isTrue (.BoolOp op vs pos) X.env wh = allTrue op vs X.env := fun wh => by rw [PySem.isTrue]
  have z := h.run pins s σ H Q I q
  rw [e] at z ⊢
  exact z⟩
theorem stuck_told {X : Cx} {T : List (Addr × Str)} {C : Ctl} {W : WX} {e : Expr} {i : Nat} {e' : IE} (h : C.told.lookup i = none) : OkE X T C W e (.told i e') := ⟨fun pins s σ H Q I ⟨ρ, m, env, S, R, q⟩ => by
  unfold evalE at q
  rw [h] at q
  exact (show False from q).elim⟩
section
variable {n : Nat}
theorem snd_name (x : Str) (pos : Pos) {c : Ctx} {ir : IE} (h : cE (n + 1) c (.Name x pos) = some ir) {C : Ctl} {Pg : Prog} {lv : Nat} {T : List (Addr × Str)} {X : Cx} {W : WX} (G : Good c C Pg lv T X W) : OkE X T C W (.Name x pos) ir := by
  simp only [cE] at h
  split at h
  · rename_i i hi
    cases h
    exact ok_var G hi
  · split at h
    · rename_i hg
      rw [Option.map_eq_some_iff] at h
      obtain ⟨d, hd, rfl⟩ := h
      exact ok_glo G hg hd
    · cases h
theorem fn_at {c : Ctx} {f : Str} {i : Nat} (h : c.fns.findIdx? (fun q => q.1 == f) = some i) : ∃ q, c.fns[i]? = some q ∧ q.1 = f := by
  rw [List.findIdx?_eq_some_iff_getElem] at h
  obtain ⟨hi, h1, _⟩ := h
  exact ⟨c.fns[i], List.getElem?_eq_getElem hi, beq_iff_eq.mp h1⟩
theorem cEs_nil {c : Ctx} {l : List IE} (h : cEs n c [] = some l) : l = [] := by
  cases n with
  | zero => simp [cEs] at h
  | succ n => simp [cEs] at h; exact h
theorem snd_call (f : Str) (p : Pos) (args : List Expr) (pos : Pos) {c : Ctx} {ir : IE} (HE : SndE n) (HEs : SndEs n) (h : cE (n + 1) c (.Call (.Name f p) args [] pos) = some ir) {C : Ctl} {Pg : Prog} {lv : Nat} {T : List (Addr × Str)} {X : Cx} {W : WX} (G : Good c C Pg lv T X W) : OkE X T C W (.Call (.Name f p) args [] pos) ir := by
  by_cases hlam : ∃ ps body scope lpos, args = [.Lambda ps body scope lpos]
  · obtain ⟨ps, body, scope, lpos, rfl⟩ := hlam
    simp only [cE] at h
    split at h
    · rename_i hg
      split at h
      · rename_i i hi
        split at h
        · rename_i hc
          rw [Option.bind_eq_some_iff] at h
          obtain ⟨e', he, h⟩ := h
          cases h
          obtain ⟨q, hq, hf⟩ := fn_at hi
          cases ht : C.told.lookup i with
          | none => exact stuck_told ht
          | some cl =>
            have two := G.two i cl ht
            exact ok_told G hc.2.1 hg hq hf ht hc.2.2.1 hc.2.2.2 fun A outer s H E f' c' hr => (HE _ _ _ he _ _ _ _ _ _ (G.lamG rfl (G.lam hc.2.1) hr)).1
        · cases h
      · cases h
    · cases h
  · have h2 : (if c.isGl f = true then (match c.fns.findIdx? (fun q => q.1 == f) with
      | some i => (match c.fns[i]? with
        | some q => if q.1 = f ∧ q.2.length = args.length then (cEs n c args).bind fun l => some (.call i l) else none
        | none => none)
      | none => (match lrevOf c f args with
        | some a => (cE n c a).bind fun a' => some (.lrev a')
        | none => (match anyOf c f args with
          | some a => (cE n c a).bind fun a' => some (.anyNI a')
          | none => (match anyLOf c f args with
          | some a => (cE n c a).bind fun a' => some (.anyL a')
          | none => (match isTOf c f args with
            | some a => (cE n c a).bind fun a' => some (.isT a')
            | none => (match tzipOf c f args with
            | some (a, b) => (cE n c a).bind fun a' => (cE n c b).bind fun b' => some (.blt .tzip [a', b'])
            | none => (bltOf f args.length).bind fun b => (cEs n c args).bind fun l => some (.blt b l))))))) else none) = some ir := by
      rw [cE] at h
      · exact h
      · rintro ps body scope lpos rfl
        exact hlam ⟨_, _, _, _, rfl⟩
    split at h2
    · rename_i hg
      split at h2
      · rename_i i hi
        split at h2
        · rename_i q hq
          split at h2
          · rename_i hc
            rw [Option.bind_eq_some_iff] at h2
            obtain ⟨l, hl, h2⟩ := h2
            cases h2
            cases args with
            | nil =>
              rw [cEs_nil hl]
              exact ok_call0 G hg hq hc.1
            | cons e es => exact ok_call G hg hq hc.1 (cEs_plain hl) (HEs _ _ _ hl _ _ _ _ _ _ G)
          · cases h2
        · cases h2
      · split at h2
        · rename_i a ha
          rw [Option.bind_eq_some_iff] at h2
          obtain ⟨a', he, h2⟩ := h2
          cases h2
          unfold lrevOf at ha
          split at ha
          · split at ha
            · rename_i hc
              cases ha
              obtain ⟨rfl, rfl, hr⟩ := hc
              exact ok_lrev G hg hr (cE_plain he) (HE _ _ _ he _ _ _ _ _ _ G).1
            · cases ha
          · cases ha
        · split at h2
          · rename_i a ha
            rw [Option.bind_eq_some_iff] at h2
            obtain ⟨a', he, h2⟩ := h2
            cases h2
            unfold anyOf at ha
            split at ha
            · split at ha
              · rename_i hc
                cases ha
                obtain ⟨rfl, rfl, rfl, rfl, hn, hgen, hok⟩ := hc
                exact ok_anyNI G hg hgen hok hn (HE _ _ _ he _ _ _ _ _ _ G).1
              · cases ha
            · cases ha
          · split at h2
            · rename_i a ha
              rw [Option.bind_eq_some_iff] at h2
              obtain ⟨a', he, h2⟩ := h2
              cases h2
              unfold anyLOf at ha
              split at ha
              · split at ha
                · rename_i hc
                  cases ha
                  obtain ⟨rfl, rfl, hn, hgen, hok⟩ := hc
                  exact ok_anyL G hg hgen hok hn (HE _ _ _ he _ _ _ _ _ _ G).1
                · cases ha
              · cases ha
            · split at h2
              · rename_i a ha
                rw [Option.bind_eq_some_iff] at h2
                obtain ⟨a', he, h2⟩ := h2
                cases h2
                unfold isTOf at ha
                split at ha
                · split at ha
                  · rename_i hc
                    cases ha
                    obtain ⟨rfl, rfl, hr⟩ := hc
                    exact ok_isT G hg hr (cE_plain he) (HE _ _ _ he _ _ _ _ _ _ G).1
                  · cases ha
                · cases ha
              · split at h2
                · rename_i a b ha
                  simp only [Option.bind_eq_some_iff] at h2
                  obtain ⟨a', he, b', hb, h2⟩ := h2
                  cases h2
                  unfold tzipOf at ha
                  split at ha
                  · split at ha
                    · rename_i hc
                      cases ha
                      obtain ⟨rfl, rfl, hr⟩ := hc
                      exact ok_tzip G hg hr (cE_plain he) (cE_plain hb) (HE _ _ _ he _ _ _ _ _ _ G).1 (HE _ _ _ hb _ _ _ _ _ _ G).1
                    · cases ha
                  · cases ha
                · simp only [Option.bind_eq_some_iff] at h2
                  obtain ⟨b, hb, l, hl, h2⟩ := h2
                  cases h2
                  cases args with
                  | nil =>
                    exfalso
                    unfold bltOf at hb
                    simp at hb
                  | cons e es => exact ok_blt G hg hb (cEs_plain hl) (HEs _ _ _ hl _ _ _ _ _ _ G)
    · cases h2
theorem snd_meth (o : Expr) (f : Str) (ap : Pos) (args : List Expr) (pos : Pos) {c : Ctx} {ir : IE} (HE : SndE n) (HEs : SndEs n) (h : cE (n + 1) c (.Call (.Attribute o f ap) args [] pos) = some ir) {C : Ctl} {Pg : Prog} {lv : Nat} {T : List (Addr × Str)} {X : Cx} {W : WX} (G : Good c C Pg lv T X W) : OkE X T C W (.Call (.Attribute o f ap) args [] pos) ir := by
  simp only [cE] at h
  split at h
  · rename_i hc
    simp only [Option.bind_eq_some_iff] at h
    obtain ⟨k, hk, o', ho, l, hl, h⟩ := h
    cases h
    have nb : attributeBase o f X.env (eval o X.env) = eval o X.env := by
      cases o <;> first | rfl | (cases hc.2)
    cases args with
    | nil =>
      rw [cEs_nil hl]
      exact ok_mth0 hk hc.1 nb (HE _ _ _ ho _ _ _ _ _ _ G).1
    | cons e es =>
      cases es with
      | nil => exact ok_mth1 hk hc.1 nb (pa_two (cEs_plain hl)).1 (HE _ _ _ ho _ _ _ _ _ _ G).1 (HEs _ _ _ hl _ _ _ _ _ _ G)
      | cons e2 es =>
        cases es with
        | nil =>
          have pl := cEs_plain hl
          simp only [plainEs, Bool.and_eq_true] at pl
          exact ok_mth2 hk hc.1 nb pl.1 pl.2.1 (HE _ _ _ ho _ _ _ _ _ _ G).1 (HEs _ _ _ hl _ _ _ _ _ _ G)
        | cons e3 es =>
          exfalso
          unfold mthOf at hk
          simp at hk
  · cases h
theorem snd_comp (elt tg it : Expr) (ifs : List Expr) (scope : Scope) (pos : Pos) {c : Ctx} {ir : IE} (HE : SndE n) (HI : SndI n) (h : cE (n + 1) c (.ListComp elt [⟨tg, it, ifs, 0⟩] scope pos) = some ir) {C : Ctl} {Pg : Prog} {lv : Nat} {T : List (Addr × Str)} {X : Cx} {W : WX} (G : Good c C Pg lv T X W) : OkE X T C W (.ListComp elt [⟨tg, it, ifs, 0⟩] scope pos) ir := by
  simp only [cE] at h
  split at h
  · rename_i hc
    simp only [Option.bind_eq_some_iff] at h
    obtain ⟨it', hi, tg', ht, t', hif, e', he, h⟩ := h
    split at h
    · rename_i hv
      cases h
      refine ok_comp G hc.2.1 hc.2.2 (HI _ _ _ _ hi _ _ _ _ _ _ G) (fun s H Ca cl fp => ok_tg (G.blk scope s H Ca cl fp) _ _ _ ht) (fun s H Ca cl fp => ?_) (fun s H Ca cl fp => (HE _ _ _ he _ _ _ _ _ _ (G.blk scope s H Ca cl fp)).1) hv
      cases ifs with
      | nil => cases hif; exact ok_yes
      | cons i r =>
        cases r with
        | nil => exact pts_one (HE _ _ _ hif _ _ _ _ _ _ (G.blk scope s H Ca cl fp)).2
        | cons _ _ => cases hif
    · cases h
  · cases h
theorem comp2_inv {elt : Expr} {g1 g2 : Comprehension} {scope : Scope} {pos : Pos} {c : Ctx} {ir : IE} (h : cE (n + 1) c (.ListComp elt [g1, g2] scope pos) = some ir) :
    ∃ tg it tg1 y py it' tg' v1 tg1' e', g1 = ⟨tg, it, [], 0⟩ ∧ g2 = ⟨tg1, .Name y py, [], 0⟩ ∧ blkC c.N c.sc scope (ownOf c.N scope) = true ∧ plainE it = true ∧ cI n c tg it = some it' ∧ cTg (blkX c scope) n tg = some tg' ∧ (blkX c scope).slot y = some v1 ∧ cTg (blkX c scope) n tg1 = some tg1' ∧ cE n (blkX c scope) elt = some e' ∧
      (tgVars tg').all (fun i => decide (i ∈ ownI c.N scope)) = true ∧ (tgVars tg1').all (fun i => decide (i ∈ ownI c.N scope)) = true ∧ ir = .comp2 tg' it' tg1' v1 e' (ownI c.N scope) (tgVars tg1') := by
  obtain ⟨tg, it, ifs, as⟩ := g1
  obtain ⟨tg1, it1, ifs1, as1⟩ := g2
  cases ifs with
  | cons _ _ => simp [cE] at h
  | nil =>
  cases ifs1 with
  | cons _ _ => cases it1 <;> simp [cE] at h
  | nil =>
  cases it1 with
  | Name y py =>
    simp only [cE] at h
    split at h
    · rename_i hc
      simp only [Option.bind_eq_some_iff] at h
      obtain ⟨it', hi, tg', ht, v1, hy, tg1', ht1, e', he, h⟩ := h
      split at h
      · rename_i hv
        cases h
        obtain ⟨rfl, rfl, hb, hp⟩ := hc
        exact ⟨tg, it, tg1, y, py, it', tg', v1, tg1', e', rfl, rfl, hb, hp, hi, ht, hy, ht1, he, hv.1, hv.2, rfl⟩
      · cases h
    · cases h
  | _ => simp [cE] at h
theorem snd_comp2 (elt : Expr) (g1 g2 : Comprehension) (scope : Scope) (pos : Pos) {c : Ctx} {ir : IE} (HE : SndE n) (HI : SndI n) (h : cE (n + 1) c (.ListComp elt [g1, g2] scope pos) = some ir) {C : Ctl} {Pg : Prog} {lv : Nat} {T : List (Addr × Str)} {X : Cx} {W : WX} (G : Good c C Pg lv T X W) : OkE X T C W (.ListComp elt [g1, g2] scope pos) ir := by
  obtain ⟨tg, it, tg1, y, py, it', tg', v1, tg1', e', rfl, rfl, hb, hp, hi, ht, hy, ht1, he, hv, hv1, rfl⟩ := comp2_inv h
  exact ok_comp2 G hb hp (HI _ _ _ _ hi _ _ _ _ _ _ G) hy (fun s H Ca cl fp => ok_tg (G.blk scope s H Ca cl fp) _ _ _ ht) (fun s H Ca cl fp => ok_tg (G.blk scope s H Ca cl fp) _ _ _ ht1) (fun s H Ca cl fp => (HE _ _ _ he _ _ _ _ _ _ (G.blk scope s H Ca cl fp)).1) hv hv1
theorem snd_seqI {tg e : Expr} {c : Ctx} {ir : II} (HE : SndE n) (h : ((cE n c e).bind fun e' => some (II.seq e')) = some ir) {C : Ctl} {Pg : Prog} {lv : Nat} {T : List (Addr × Str)} {X : Cx} {W : WX} (G : Good c C Pg lv T X W) : OkI X T C W tg e ir := by
  rw [Option.bind_eq_some_iff] at h
  obtain ⟨e', he, h⟩ := h
  cases h
  exact ok_seq (HE _ _ _ he _ _ _ _ _ _ G).1
theorem snd_I (HE : SndE n) : SndI (n + 1) := by
  intro c tg e ir h C Pg lv T X W G
  unfold cI at h
  split at h
  · split at h
    · rename_i hc
      rw [Option.bind_eq_some_iff] at h
      obtain ⟨a', ha, h⟩ := h
      cases h
      obtain ⟨hg, rfl⟩ := hc
      exact ok_rng1 G hg (cE_plain ha) (HE _ _ _ ha _ _ _ _ _ _ G).1
    · split at h
      · rename_i hc
        rw [Option.bind_eq_some_iff] at h
        obtain ⟨a', ha, h⟩ := h
        cases h
        obtain ⟨hg, rfl⟩ := hc
        exact ok_rev G hg (cE_plain ha) (HE _ _ _ ha _ _ _ _ _ _ G).1
      · split at h
        · rename_i hc
          rw [Option.bind_eq_some_iff] at h
          obtain ⟨a', ha, h⟩ := h
          cases h
          obtain ⟨hg, rfl, htg⟩ := hc
          cases tg with
          | Tuple tgs kk tpos => exact ok_enm G hg (cE_plain ha) (HE _ _ _ ha _ _ _ _ _ _ G).1
          | _ => cases htg
        · exact snd_seqI HE h G
  · split at h
    · rename_i hc
      simp only [Option.bind_eq_some_iff] at h
      obtain ⟨a', ha, b', hb, h⟩ := h
      cases h
      obtain ⟨hg, rfl⟩ := hc
      exact ok_rng2 G hg (cE_plain ha) (cE_plain hb) (HE _ _ _ ha _ _ _ _ _ _ G).1 (HE _ _ _ hb _ _ _ _ _ _ G).1
    · split at h
      · rename_i hc
        simp only [Option.bind_eq_some_iff] at h
        obtain ⟨a', ha, b', hb, h⟩ := h
        cases h
        obtain ⟨hg, rfl, htg⟩ := hc
        cases tg with
        | Tuple tgs kk tpos => exact ok_zip G hg (cE_plain ha) (cE_plain hb) (HE _ _ _ ha _ _ _ _ _ _ G).1 (HE _ _ _ hb _ _ _ _ _ _ G).1
        | _ => cases htg
      · exact snd_seqI HE h G
  · exact snd_seqI HE h G
theorem snd_O (HE : SndE n) : SndO (n + 1) := by
  intro c e ir h C Pg lv T X W G
  cases e with
  | none =>
    simp only [cO, Option.some.injEq] at h
    subst h
    exact ok_nop
  | some e =>
    simp only [cO] at h
    exact ok_part (HE _ _ _ h _ _ _ _ _ _ G).1
theorem snd_Es (HE : SndE n) (HEs : SndEs n) : SndEs (n + 1) := by
  intro c es l h C Pg lv T X W G
  cases es with
  | nil =>
    simp only [cEs, Option.some.injEq] at h
    subst h
    exact ok_nil
  | cons e es =>
    simp only [cEs, Option.bind_eq_some_iff] at h
    obtain ⟨e', he, r', hr, h⟩ := h
    cases h
    exact ok_cons (cE_plain he) (HE _ _ _ he _ _ _ _ _ _ G).1 (HEs _ _ _ hr _ _ _ _ _ _ G)
theorem snd_bool (op : BoolOp) (vs : List Expr) (pos : Pos) (HE : SndE n) {c : Ctx} {ir : IE} (h : cE (n + 1) c (.BoolOp op vs pos) = some ir) {C : Ctl} {Pg : Prog} {lv : Nat} {T : List (Addr × Str)} {X : Cx} {W : WX} (G : Good c C Pg lv T X W) : OkE X T C W (.BoolOp op vs pos) ir ∧ OkT X T C W (.BoolOp op vs pos) ir := by
  match op, vs, h with
  | .And, [a, b], h =>
    simp only [cE, Option.bind_eq_some_iff] at h
    obtain ⟨a', ha, b', hb, h⟩ := h
    cases h
    have A := HE _ _ _ ha _ _ _ _ _ _ G
    have B := HE _ _ _ hb _ _ _ _ _ _ G
    exact ⟨ok_and A.1 (pe_one B.1), (ok_andT A.2 (pw_and1 B.2)).pt⟩
  | .Or, [a, b], h =>
    simp only [cE, Option.bind_eq_some_iff] at h
    obtain ⟨a', ha, b', hb, h⟩ := h
    cases h
    have A := HE _ _ _ ha _ _ _ _ _ _ G
    have B := HE _ _ _ hb _ _ _ _ _ _ G
    exact ⟨ok_or A.1 (pe_one B.1), (ok_orT A.2 (pw_or1 B.2)).pt⟩
  | .And, a :: b :: d :: r, h =>
    simp only [cE, Option.bind_eq_some_iff] at h
    obtain ⟨a', ha, b', hb, h⟩ := h
    cases h
    have A := HE _ _ _ ha _ _ _ _ _ _ G
    have B := HE _ _ _ hb _ _ _ _ _ _ G
    exact ⟨ok_and A.1 B.1, (ok_andT A.2 (pw_of B.2)).pt⟩
  | .Or, a :: b :: d :: r, h =>
    simp only [cE, Option.bind_eq_some_iff] at h
    obtain ⟨a', ha, b', hb, h⟩ := h
    cases h
    have A := HE _ _ _ ha _ _ _ _ _ _ G
    have B := HE _ _ _ hb _ _ _ _ _ _ G
    exact ⟨ok_or A.1 B.1, (ok_orT A.2 (pw_of B.2)).pt⟩
  | .And, [], h => simp [cE] at h
  | .Or, [], h => simp [cE] at h
  | .And, [a], h => simp [cE] at h
  | .Or, [a], h => simp [cE] at h
theorem snd_cmp (a : Expr) (ops : List CmpOp) (es : List Expr) (pos : Pos) (HE : SndE n) {c : Ctx} {ir : IE} (h : cE (n + 1) c (.Compare a ops es pos) = some ir) {C : Ctl} {Pg : Prog} {lv : Nat} {T : List (Addr × Str)} {X : Cx} {W : WX} (G : Good c C Pg lv T X W) : OkE X T C W (.Compare a ops es pos) ir ∧ OkT X T C W (.Compare a ops es pos) ir := by
  match ops, es, h with
  | [op], [b], h =>
    simp only [cE, Option.bind_eq_some_iff] at h
    obtain ⟨a', ha, b', hb, h⟩ := h
    cases h
    have A := HE _ _ _ ha _ _ _ _ _ _ G
    have B := HE _ _ _ hb _ _ _ _ _ _ G
    exact ⟨ok_cmp G (cE_plain hb) A.1 B.1, ok_cmpT G (cE_plain hb) A.1 B.1⟩
  | [o1, o2], [b, d], h =>
    simp only [cE, Option.bind_eq_some_iff] at h
    obtain ⟨a', ha, b', hb, d', hd, h⟩ := h
    cases h
    have A := HE _ _ _ ha _ _ _ _ _ _ G
    have B := HE _ _ _ hb _ _ _ _ _ _ G
    have D := HE _ _ _ hd _ _ _ _ _ _ G
    exact ⟨ok_cmp2 G (cE_plain hd) A.1 B.1 D.1, ok_cmp2T G (cE_plain hd) A.1 B.1 D.1⟩
  | [], _, h => simp [cE] at h
  | [_], [], h => simp [cE] at h
  | [_], _ :: _ :: _, h => simp [cE] at h
  | [_, _], [], h => simp [cE] at h
  | [_, _], [_], h => simp [cE] at h
  | [_, _], _ :: _ :: _ :: _, h => simp [cE] at h
  | _ :: _ :: _ :: _, _, h => simp [cE] at h
theorem snd_un (op : UnaryOp) (a : Expr) (pos : Pos) (HE : SndE n) {c : Ctx} {ir : IE} (h : cE (n + 1) c (.UnaryOp op a pos) = some ir) {C : Ctl} {Pg : Prog} {lv : Nat} {T : List (Addr × Str)} {X : Cx} {W : WX} (G : Good c C Pg lv T X W) : OkE X T C W (.UnaryOp op a pos) ir ∧ OkT X T C W (.UnaryOp op a pos) ir := by
  cases op with
  | USub =>
    simp only [cE, Option.bind_eq_some_iff] at h
    obtain ⟨a', ha, h⟩ := h
    cases h
    have A := HE _ _ _ ha _ _ _ _ _ _ G
    exact ⟨ok_neg A.1, ok_val (ok_neg A.1) fun _ => by rw [PySem.isTrue]; all_goals simp⟩
  | Not =>
    simp only [cE, Option.bind_eq_some_iff] at h
    obtain ⟨a', ha, h⟩ := h
    cases h
    have A := HE _ _ _ ha _ _ _ _ _ _ G
    exact ⟨ok_not A.1, ok_notT A.2⟩
  | _ => simp [cE] at h
theorem snd_sub (a b : Expr) (pos : Pos) (HE : SndE n) (HO : SndO n) {c : Ctx} {ir : IE} (h : cE (n + 1) c (.Subscript a b pos) = some ir) {C : Ctl} {Pg : Prog} {lv : Nat} {T : List (Addr × Str)} {X : Cx} {W : WX} (G : Good c C Pg lv T X W) : OkE X T C W (.Subscript a b pos) ir := by
  by_cases hs : ∃ lo hi p, b = .Slice lo hi none p
  · obtain ⟨lo, hi, p, rfl⟩ := hs
    simp only [cE, Option.bind_eq_some_iff] at h
    obtain ⟨a', ha, l', hl, h', hh, h⟩ := h
    cases h
    exact ok_slc (HE _ _ _ ha _ _ _ _ _ _ G).1 (HO _ _ _ hl _ _ _ _ _ _ G) (HO _ _ _ hh _ _ _ _ _ _ G)
  · rw [cE] at h
    · split at h
      · rename_i nb
        simp only [Option.bind_eq_some_iff] at h
        obtain ⟨a', ha, b', hb, h⟩ := h
        cases h
        exact ok_idx nb (HE _ _ _ ha _ _ _ _ _ _ G).1 (HE _ _ _ hb _ _ _ _ _ _ G).1
      · cases h
    · rintro lo hi p rfl
      exact hs ⟨_, _, _, rfl⟩
theorem snd_E (HE : SndE n) (HEs : SndEs n) (HO : SndO n) (HI : SndI n) : SndE (n + 1) := by
  intro c e ir h C Pg lv T X W G
  have tr : ∀ {e : Expr} {ir : IE}, OkE X T C W e ir → (∀ whole, PySem.isTrue e X.env whole = (do let v ← whole; standAt e.pos; holding [v] (truthy v))) → OkE X T C W e ir ∧ OkT X T C W e ir := fun h he => ⟨h, ok_val h he⟩
  cases e with
  | Name x pos => exact tr (snd_name x pos h G) fun _ => by rw [PySem.isTrue]; all_goals simp
  | Constant k j pos =>
    simp only [cE, Option.map_eq_some_iff] at h
    obtain ⟨d, hd, rfl⟩ := h
    exact tr (ok_con hd) fun _ => by rw [PySem.isTrue]; all_goals simp
  | BinOp a op b pos =>
    simp only [cE] at h
    split at h
    · rename_i ho
      simp only [Option.bind_eq_some_iff] at h
      obtain ⟨a', ha, b', hb, h⟩ := h
      cases h
      exact tr (ok_bin ho (HE _ _ _ ha _ _ _ _ _ _ G).1 (HE _ _ _ hb _ _ _ _ _ _ G).1) fun _ => by rw [PySem.isTrue]; all_goals simp
    · cases h
  | UnaryOp op a pos => exact snd_un op a pos HE h G
  | BoolOp op vs pos => exact snd_bool op vs pos HE h G
  | Compare a ops es pos => exact snd_cmp a ops es pos HE h G
  | IfExp t a b pos =>
    simp only [cE, Option.bind_eq_some_iff] at h
    obtain ⟨t', ht, a', ha, b', hb, h⟩ := h
    cases h
    have Tt := HE _ _ _ ht _ _ _ _ _ _ G
    have A := HE _ _ _ ha _ _ _ _ _ _ G
    have B := HE _ _ _ hb _ _ _ _ _ _ G
    exact ⟨ok_if Tt.2 A.1 B.1, ok_ifT Tt.2 A.2 B.2⟩
  | Subscript a b pos => exact tr (snd_sub a b pos HE HO h G) fun _ => by rw [PySem.isTrue]; all_goals simp
  | Tuple es k pos =>
    simp only [cE, Option.bind_eq_some_iff] at h
    obtain ⟨l, hl, h⟩ := h
    cases h
    exact tr (ok_tup (HEs _ _ _ hl _ _ _ _ _ _ G)) fun _ => by rw [PySem.isTrue]; all_goals simp
  | List es pos =>
    simp only [cE, Option.bind_eq_some_iff] at h
    obtain ⟨l, hl, h⟩ := h
    cases h
    exact tr (ok_lst (HEs _ _ _ hl _ _ _ _ _ _ G)) fun _ => by rw [PySem.isTrue]; all_goals simp
  | Call f args kws pos =>
    cases kws with
    | cons kw kws =>
      cases f with
      | Name f p =>
        simp only [cE, Option.bind_eq_some_iff] at h
        obtain ⟨q, hq, e', he, h⟩ := h
        cases h
        obtain ⟨e, kn, a1, body, scope, p1, p2, rfl, hkw, h1, h2, h3, h4, h5, h6⟩ := srt_inv hq
        rw [hkw]
        subst h1
        subst h2
        rw [h6] at he ⊢
        exact tr (ok_srtQ G h4 h3 (cE_plain he) (HE _ _ _ he _ _ _ _ _ _ G).1 (key_by h5)) fun _ => by rw [PySem.isTrue]; all_goals simp
      | _ => simp [cE] at h
    | nil =>
      cases f with
      | Name f p => exact tr (snd_call f p args pos HE HEs h G) fun _ => by rw [PySem.isTrue]; all_goals simp
      | Attribute o f ap => exact tr (snd_meth o f ap args pos HE HEs h G) fun _ => by rw [PySem.isTrue]; all_goals simp
      | _ => simp [cE] at h
  | ListComp elt gens scope pos =>
    match gens, h with
    | [⟨tg, it, ifs, as⟩], h =>
      have e : as = 0 := by
        simp only [cE] at h
        split at h
        · rename_i hc
          exact hc.1
        · cases h
      subst e
      exact tr (snd_comp elt tg it ifs scope pos HE HI h G) fun _ => by rw [PySem.isTrue]; all_goals simp
    | [], h => simp [cE] at h
    | [g1, g2], h => exact tr (snd_comp2 elt g1 g2 scope pos HE HI h G) fun _ => by rw [PySem.isTrue]; all_goals simp
    | _ :: _ :: _ :: _, h => simp [cE] at h
  | _ => simp [cE] at h
theorem snd_all : ∀ n, SndE n ∧ SndEs n ∧ SndO n ∧ SndI n
  | 0 => ⟨fun _ _ _ h => by simp [cE] at h, fun _ _ _ h => by simp [cEs] at h, fun _ _ _ h => by simp [cO] at h, fun _ _ _ _ h => by simp [cI] at h⟩
  | n + 1 => by
    obtain ⟨h1, h2, h3, h4⟩ := snd_all n
    exact ⟨snd_E h1 h2 h3 h4, snd_Es h1 h2, snd_O h1, snd_I h1⟩
end
end Dat

/-! Dat14 -/
set_option linter.all false
set_option maxRecDepth 100000
set_option maxHeartbeats 2000000
/-! Dat14: statements. -/
namespace Dat
open PySem PySem.Spec L2 PyProof.Rows
def blkK (sc : Scope) : ScopeKind := if sc.kind.isAnnotationScope then .function else sc.kind
def swTV : List Expr → Expr → Option (List Expr × List Expr)
  | [.Tuple ts _ _], .Tuple vs _ _ => some (ts, vs)
  | [.List ts _], .Tuple vs _ _ => some (ts, vs)
  | _, _ => none
def swB (sc : Scope) (targets : List Expr) (value : Expr) : Option (Option (List Str)) := match swTV targets value with
  | none => some none
  | some (ts, vs) =>
    if (!(ts.length == 2 || ts.length == 3) || vs.length != ts.length || blkK sc != .function) = true then some none else
    if (vs.any fun | .Starred .. => true | _ => false) = true then some none else
    let line := (ts.head?.map (·.pos.line)).getD 0
    let names := ts.filterMap fun
      | .Name id pos => if sc.names.lookup id == some .local && pos.line == line then some id else none
      | _ => none
    if (names.length != ts.length || names.eraseDups.length != names.length) = true then some none else
    if vs.all (foldedForSure 8) = true then some none else
    if vs.all (constantsAlone 8) = true then none else some (some names)
theorem sw_ok {env : Env} {sc : Scope} {ts : List Expr} {v : Expr} {r : Option (List Str)} (hs : env.scope = sc) (h : swB sc ts v = some r) : swappedStores ts v env = pure r := by
  subst hs
  unfold swappedStores
  split
  · rename_i tl vl heq
    have hq : swTV ts v = some (tl, vl) := by
      split at heq
      · cases heq; rfl
      · cases heq; rfl
      · cases heq
    unfold swB at h
    rw [hq] at h
    simp only at h ⊢
    have e2 : env.blockKind = blkK env.scope := rfl
    rw [e2]
    split at h
    · rename_i c; cases h; exact if_pos c
    · rename_i c; refine (if_neg c).trans ?_
      split at h
      · rename_i c; cases h; exact if_pos c
      · rename_i c; refine (if_neg c).trans ?_
        split at h
        · rename_i c; cases h; exact if_pos c
        · rename_i c3
          split at h
          · rename_i c; cases h; exact (if_neg c3).trans (if_pos c)
          · rename_i c4
            split at h
            · cases h
            · rename_i c5
              cases h; exact (if_neg c3).trans ((if_neg c4).trans (if_neg c5))
  · rename_i hne
    have hq : swTV ts v = none := by
      cases hq : swTV ts v with
      | none => rfl
      | some p =>
        exfalso
        unfold swTV at hq
        split at hq
        · cases hq; exact hne _ _ rfl
        · cases hq; exact hne _ _ rfl
        · cases hq
    unfold swB at h
    rw [hq] at h
    cases h
    rfl

def isComp : Expr → Bool
  | .ListComp .. | .SetComp .. | .DictComp .. => true
  | _ => false
def subE : Expr → Bool
  | .Subscript .. => true
  | _ => false
theorem swap_no {e tg : Expr} {l : Nat} {env : Env} (h : isComp e = false ∨ nameE tg = false) : swapsWithSole [tg] e l env = pure false := by
  show swapsWith e (some tg) l env = pure false
  cases e <;> first
    | rfl
    | (rcases h with h | h
       · cases h
       · cases tg <;> first | rfl | cases h)
theorem swap_none {e : Expr} {l : Nat} {env : Env} (h : isComp e = false) : swapsWith e none l env = pure false := by
  cases e <;> first | rfl | cases h
/-- name = [..]: on one line, the name a local that is no own name of the comprehension -/
def swYes (sc : Scope) (y : Str) (py : Pos) : Expr → Bool
  | .ListComp _ _ scope pos => decide (sc.kind = .function) && (decide (sc.names.lookup y = some .local) && ((py.line == pos.line) && !(scope.names.any fun (n, k) => n == y && (k == .local || k == .cell))))
  | _ => false
/-! ### compile -/
/-- a statement that is out of the small language: it may not be reached -/
def stkS (c : Ctx) : Option IS := if c.N.length ≤ 1000 then some (.expr (.var 1000)) else none
mutual
def cS : Nat → Ctx → Stmt → Option IS
  | 0, _, _ => none
  | n + 1, c, st => match st with
    | .Expr e _ => if isComp e = false then (cE n c e).bind fun e' => some (.expr e') else none
    | .Assign [.Name x py] (.ListComp elt [⟨tg, it, ifs, as⟩] scope pos) _ =>
      if swYes c.sc x py (.ListComp elt [⟨tg, it, ifs, as⟩] scope pos) = true then
        (cE n c (.ListComp elt [⟨tg, it, ifs, as⟩] scope pos)).bind fun e' => (c.slot x).bind fun i => some (.asg (.var i) e')
      else if c.sc.names.lookup x ≠ some .local then
        (cTg c n (.Name x py)).bind fun t => (cE n c (.ListComp elt [⟨tg, it, ifs, as⟩] scope pos)).bind fun e' => some (.asg t e')
      else none
    | .Assign [.Name x py] (.ListComp elt [g1, g2] scope pos) _ =>
      if swYes c.sc x py (.ListComp elt [g1, g2] scope pos) = true then
        (cE n c (.ListComp elt [g1, g2] scope pos)).bind fun e' => (c.slot x).bind fun i => some (.asg (.var i) e')
      else none
    | .Assign [.Subscript o i _] e _ => if noSlice i = true then (cE n c e).bind fun e' => (cE n c o).bind fun o' => (cE n c i).bind fun i' => some (.setI o' i' e') else none
    | .Assign [.Tuple [.Name x px, .Name y py] k pt] (.Tuple [a, b] k2 p2) _ =>
      if swB c.sc [.Tuple [.Name x px, .Name y py] k pt] (.Tuple [a, b] k2 p2) = some (some [x, y]) then
        if c.sc.names.lookup x = some .local ∧ c.sc.names.lookup y = some .local then
          (cEs n c [a, b]).bind fun l => (c.slot x).bind fun i => (c.slot y).bind fun j => if i ≠ j then some (.asg (.tup [.var i, .var j]) (.tup l)) else none
        else none
      else if swB c.sc [.Tuple [.Name x px, .Name y py] k pt] (.Tuple [a, b] k2 p2) = some none then
        (cTg c n (.Tuple [.Name x px, .Name y py] k pt)).bind fun t => (cE n c (.Tuple [a, b] k2 p2)).bind fun e' => some (.asg t e')
      else none
    | .Assign [.Tuple [.Name x px, .Name y py, .Name z pz] k pt] (.Tuple [a, b, d] k2 p2) _ =>
      if swB c.sc [.Tuple [.Name x px, .Name y py, .Name z pz] k pt] (.Tuple [a, b, d] k2 p2) = some (some [x, y, z]) then
        if c.sc.names.lookup x = some .local ∧ c.sc.names.lookup y = some .local ∧ c.sc.names.lookup z = some .local then
          (cEs n c [a, b, d]).bind fun l => (c.slot x).bind fun i => (c.slot y).bind fun j => (c.slot z).bind fun h => if i ≠ j ∧ i ≠ h ∧ j ≠ h then some (.asg (.tup [.var i, .var j, .var h]) (.tup l)) else none
        else none
      else if swB c.sc [.Tuple [.Name x px, .Name y py, .Name z pz] k pt] (.Tuple [a, b, d] k2 p2) = some none then
        (cTg c n (.Tuple [.Name x px, .Name y py, .Name z pz] k pt)).bind fun t => (cE n c (.Tuple [a, b, d] k2 p2)).bind fun e' => some (.asg t e')
      else none
    | .Assign [.Tuple [.Subscript o1 i1 q1, .Subscript o2 i2 q2] k pt] (.Tuple [a, b] k2 p2) _ =>
      if noSlice i1 = true ∧ noSlice i2 = true ∧ swB c.sc [.Tuple [.Subscript o1 i1 q1, .Subscript o2 i2 q2] k pt] (.Tuple [a, b] k2 p2) = some none then
        (cE n c a).bind fun a' => (cE n c b).bind fun b' => (cE n c o1).bind fun o1' => (cE n c i1).bind fun i1' => (cE n c o2).bind fun o2' => (cE n c i2).bind fun i2' => some (.set2 o1' i1' o2' i2' a' b')
      else none
    | .Assign [tg] e _ => if (isComp e = false ∨ nameE tg = false) ∧ subE tg = false ∧ swB c.sc [tg] e = some none then
        (cTg c n tg).bind fun t => (cE n c e).bind fun e' => some (.asg t e') else none
    | .AugAssign (.Name x p) op e _ => if op = .Add ∨ op = .Sub ∨ op = .Mult then (match cTg c 1 (.Name x p) with
      | some (.var i) => (cE n c e).bind fun e' => some (.aug i op e')
      | _ => none) else none
    | .If t a b _ => (cE n c t).bind fun t' => (cB n c a).bind fun a' => (cB n c b).bind fun b' => some (.ifS t' a' b')
    | .While t b [] _ => (cE n c t).bind fun t' => (cB n c b).bind fun b' => some (.whl t' b')
    | .For tg it b [] _ => if plainE it = true then (cI n c tg it).bind fun it' => (cTg c n tg).bind fun tg' => (cB n c b).bind fun b' => some (.forS tg' it' b') else none
    | .Return (some e) _ => (cE n c e).bind fun e' => some (.ret e')
    | .Return none _ => some .retN
    | .Raise (some (.Call (.Name x _) [.Constant (.str _) _ _] [] _)) none _ => if c.isGl x = true ∧ x ∈ c.exs then some (.rais x) else none
    | .Pass _ => some .pass
    | .Break _ => some .brk
    | .Continue _ => some .cnt
    | _ => none
def cB : Nat → Ctx → List Stmt → Option (List IS)
  | 0, _, _ => none
  | n + 1, c, ss => match ss with
    | [] => some []
    | s :: r => ((cS n c s).orElse fun _ => stkS c).bind fun s' => (cB n c r).bind fun r' => some (s' :: r')
end
/-! ### what holds behind a statement -/
def ThenO (K : PySem.W.Frag) (T : List (Addr × Str)) (ρ : List Addr) (H : Hp) (D : Ends) (W : WX) : Out → Prop
  | .nx env m => ∀ ρ' H' σ', Ext ρ H ρ' H' → Sto K T ρ' H' m → REnv K ρ' H' env σ' → D.nx σ' H'
  | .rt d m => ∀ ρ' H' v, Ext ρ H ρ' H' → Sto K T ρ' H' m → RelD K ρ' H' d v → D.rt v H'
  | .bk env m => ∀ ρ' H' σ', Ext ρ H ρ' H' → Sto K T ρ' H' m → REnv K ρ' H' env σ' → D.bk σ' H'
  | .ct env m => ∀ ρ' H' σ', Ext ρ H ρ' H' → Sto K T ρ' H' m → REnv K ρ' H' env σ' → D.ct σ' H'
  | .exn c p env m => ∀ ρ' H' σ', Ext ρ H ρ' H' → Sto K T ρ' H' m → REnv K ρ' H' env σ' → ∀ dd, RelP K ρ' H' p dd → W (.ref (He.ga K c)) dd σ' H'
  | .stuck => False
section
variable {K : PySem.W.Frag} {T : List (Addr × Str)} {C : Ctl} {W : WX} {ρ ρ1 : List Addr} {H H1 : Hp} {m : Mem} {env : EnvD} {σ : L2.St} {D : Ends}
theorem ThenO.ext {o : Out} (h : ThenO K T ρ H D W o) (E : Ext ρ H ρ1 H1) : ThenO K T ρ1 H1 D W o := by
  cases o with
  | nx env m => exact fun ρ' H' σ' E' => h ρ' H' σ' (E.trans E')
  | rt env m => exact fun ρ' H' σ' E' => h ρ' H' σ' (E.trans E')
  | bk env m => exact fun ρ' H' σ' E' => h ρ' H' σ' (E.trans E')
  | ct env m => exact fun ρ' H' σ' E' => h ρ' H' σ' (E.trans E')
  | exn c p env m => exact fun ρ' H' σ' E' => h ρ' H' σ' (E.trans E')
  | stuck => exact h
theorem ThenO.seq {o : Out} {f : EnvD → Mem → Out} (h : ThenO K T ρ H D W (o.seq f)) :
    ThenO K T ρ H { D with nx := fun σ' H' => ∃ ρ' m env, Sto K T ρ' H' m ∧ REnv K ρ' H' env σ' ∧ ThenO K T ρ' H' D W (f env m) } W o := by
  cases o with
  | nx env m => exact fun ρ' H' σ' E S R => ⟨ρ', m, env, S, R, ThenO.ext (o := f env m) h E⟩
  | rt env m => exact h
  | bk env m => exact h
  | ct env m => exact h
  | exn c p env m => exact h
  | stuck => exact h
/-- behind an expression -/
theorem ThenO.out {α : Type} {r : Res α} {f : α → Mem → Out} (S : Sto K T ρ H m) (R : REnv K ρ H env σ) (h : ThenO K T ρ H D W (r.out env f)) :
    Then K T ρ H r (fun a m1 ρ1 H1 => ThenO K T ρ1 H1 D W (f a m1)) (exW K W σ) := by
  cases r with
  | ok a m1 => exact fun ρ' H' E S' => ThenO.ext (o := f a m1) h E
  | exn c p m1 => exact fun ρ' H' E S' dd rp => h ρ' H' σ E S' (R.mono S E) dd rp
  | stuck => exact h
/-- .. with a forgetting -/
theorem ThenO.outgc {r : Res Dat.D} {f : Dat.D → Mem → Out} {D : Ends} (S : Sto K T ρ H m) (R : REnv K ρ H env σ) (h : ThenO K T ρ H D W ((r.gc m.length).out env f)) :
    Then K T ρ H r (fun a m1 ρ1 H1 => ∀ v, RelD K ρ1 H1 a v → ∃ ρ2 m2, Ext ρ H ρ2 H1 ∧ Sto K T ρ2 H1 m2 ∧ REnv K ρ2 H1 env σ ∧ RelD K ρ2 H1 a v ∧ ThenO K T ρ2 H1 D W (f a m2)) (exW K W σ) := by
  cases r with
  | ok a m1 =>
    intro ρ' H' E S' v rv
    obtain ⟨ρ2, E2, S2, r2⟩ := gc_ok E S' S.len rv
    exact ⟨ρ2, _, E2, S2, R.mono S E2, r2, ThenO.ext (o := f a _) h E2⟩
  | exn c p m1 => exact fun ρ' H' E S' dd rp => h ρ' H' σ E S' (R.mono S E) dd rp
  | stuck => exact h
theorem ThenO.outT {r : Res Dat.D} {f : Bool → Mem → Out} {D : Ends} (S : Sto K T ρ H m) (R : REnv K ρ H env σ) (h : ThenO K T ρ H D W (tstO env r m.length f)) :
    Then K T ρ H r (fun a m1 ρ1 H1 => ∃ b, a = .bl b ∧ ∃ ρ2 m2, Ext ρ H ρ2 H1 ∧ Sto K T ρ2 H1 m2 ∧ REnv K ρ2 H1 env σ ∧ ThenO K T ρ2 H1 D W (f b m2)) (exW K W σ) := by
  cases r with
  | ok a m1 =>
    intro ρ' H' E S'
    cases a with
    | bl b =>
      obtain ⟨ρ2, E2, S2, r2⟩ := gc_ok E S' S.len (.bl b)
      exact ⟨b, rfl, ρ2, _, E2, S2, R.mono S E2, ThenO.ext (o := f b _) h E2⟩
    | _ => exact (show False from h).elim
  | exn c p m1 => exact fun ρ' H' E S' dd rp => h ρ' H' σ E S' (R.mono S E) dd rp
  | stuck => exact h
theorem Res.bind_gc {α : Type} {n : Nat} {r : Res α} {f : α → Mem → Res Dat.D} : (r.bind f).gc n = r.bind fun a m => (f a m).gc n := by
  cases r <;> rfl
theorem gcs_ok {ρ' : List Addr} {H' : Hp} {n : Nat} {a : List Dat.D} {v : List V} {m' : Mem} (E : Ext ρ H ρ' H') (S' : Sto K T ρ' H' m') (hn : ρ.length = n) (r : RelDs K ρ' H' a v) :
    ∃ ρ2, Ext ρ H ρ2 H' ∧ Sto K T ρ2 H' (gcM n (.tup a) m') ∧ RelDs K ρ2 H' a v := by
  unfold gcM
  split
  · rename_i h
    exact ⟨_, E.cut hn, S'.cut h.2, r.cut (by simpa [D.undr] using h.1)⟩
  · exact ⟨_, E, S', r⟩
end
section
variable (K : PySem.W.Frag) (T : List (Addr × Str)) (C : Ctl) (W : WX)
def tS (ir : IS) : TS := fun D σ H => ∃ ρ m env, Sto K T ρ H m ∧ REnv K ρ H env σ ∧ ThenO K T ρ H D W (evalS C ir env m)
def tB (ir : List IS) : TS := fun D σ H => ∃ ρ m env, Sto K T ρ H m ∧ REnv K ρ H env σ ∧ ThenO K T ρ H D W (evalB C ir env m)
end
theorem PS.imp {X : Cx} {e : Stmt} {t t' : TS} (h : PS X e t) (i : ∀ D σ H, t' D σ H → t D σ H) : PS X e t' := ⟨fun pins s σ H D I q => h.run pins s σ H D I (i D σ H q)⟩
theorem PSs.imp {X : Cx} {e : List Stmt} {t t' : TS} (h : PSs X e t) (i : ∀ D σ H, t' D σ H → t D σ H) : PSs X e t' := ⟨fun pins s σ H D I q => h.run pins s σ H D I (i D σ H q)⟩
abbrev OkS (X : Cx) (T : List (Addr × Str)) (C : Ctl) (W : WX) (s : Stmt) (ir : IS) : Prop := PS X s (tS X.K T C W ir)
abbrev OkB (X : Cx) (T : List (Addr × Str)) (C : Ctl) (W : WX) (s : List Stmt) (ir : List IS) : Prop := PSs X s (tB X.K T C W ir)
section
variable {X : Cx} {T : List (Addr × Str)} {C : Ctl} {W : WX} {c : Ctx} {Pg : Prog} {lv : Nat} {n : Nat}
theorem oks_stk {s : Stmt} {ir : IS} (G : Good c C Pg lv T X W) (h : stkS c = some ir) : OkS X T C W s ir := by
  unfold stkS at h
  split at h
  case isFalse => cases h
  rename_i hl
  cases h
  refine ⟨fun pins s σ H D I ⟨ρ, m, env, S, R, q⟩ => ?_⟩
  exfalso
  have e1 : env.length ≤ 1000 := by rw [R.1, I.len, G.hN]; exact hl
  have e2 : env[1000]? = none := List.getElem?_eq_none e1
  unfold evalS evalE at q
  rw [e2] at q
  exact q
theorem okb_nil : OkB X T C W [] [] := by
  refine PSs.imp pss_nil fun D σ H ⟨ρ, m, env, S, R, q⟩ => ?_
  unfold evalB at q
  exact q ρ H σ (Ext.refl _ _) S R
theorem okb_cons {s : Stmt} {r : List Stmt} {s' : IS} {r' : List IS} (h1 : OkS X T C W s s') (h2 : OkB X T C W r r') : OkB X T C W (s :: r) (s' :: r') := by
  refine PSs.imp (pss_cons h1 h2) fun D σ H ⟨ρ, m, env, S, R, q⟩ => ?_
  unfold evalB at q
  exact ⟨ρ, m, env, S, R, q.seq⟩
theorem oks_expr {e : Expr} {e' : IE} {pos : Pos} (hc : isComp e = false) (h : OkE X T C W e e') : OkS X T C W (.Expr e pos) (.expr e') := by
  refine PS.imp (ps_expr h (swap_none hc)) fun D σ H ⟨ρ, m, env, S, R, q⟩ => ?_
  unfold evalS at q
  have e0 : (((evalE e' C env m).bind fun _ m1 => (Res.ok .non m1).gc m.length).out env fun _ m1 => Out.nx env m1) = (((evalE e' C env m).bind fun _ m1 => (Res.ok .non m1)).gc m.length).out env fun _ m1 => Out.nx env m1 := by
    cases evalE e' C env m <;> rfl
  rw [e0] at q
  have q1 := (q.outgc S R).bind
  refine ⟨ρ, m, env, S, R, q1.imp (fun d m1 ρ1 H1 E1 S1 q2 v r => ?_) fun _ _ _ _ _ _ _ z => z⟩
  obtain ⟨ρ2, m2, E2, S2, R2, _, q3⟩ := q2 ρ1 H1 (Ext.refl _ _) S1 .non .non
  exact q3 ρ2 H1 σ (Ext.refl _ _) S2 R2
theorem swap_cell {x : Str} {py : Pos} {e : Expr} {l : Nat} {env : Env} (h : env.scope.names.lookup x ≠ some .local) : swapsWithSole [.Name x py] e l env = pure false := by
  have k : (env.kindOf x == some .local) = false := by
    rw [beq_eq_false_iff_ne]
    exact h
  show swapsWith e (some (.Name x py)) l env = pure false
  cases e <;> first
    | rfl
    | (unfold swapsWith
       simp only [k, Bool.and_false, Bool.false_and])
theorem oks_asg {tg e : Expr} {t : Tg} {e' : IE} {pos : Pos} (hc : ∀ l, swapsWithSole [tg] e l X.env = pure false) (hp : plainE tg = true) (hsw : swappedStores [tg] e X.env = pure none) (hg : PG X tg (gT X.K T t)) (h : OkE X T C W e e') :
    OkS X T C W (.Assign [tg] e pos) (.asg t e') := by
  refine PS.imp (ps_asg h hg (hc _) hsw (by rw [asgEach_cons hp] <;> rfl)) fun D σ H ⟨ρ, m, env, S, R, q⟩ => ?_
  unfold evalS at q
  refine ⟨ρ, m, env, S, R, (q.outgc S R).imp (fun d m1 ρ1 H1 E1 S1 q1 v r => ?_) fun _ _ _ _ _ _ _ z => z⟩
  obtain ⟨ρ2, m2, E2, S2, R2, r2, q3⟩ := q1 v r
  cases ha : asgT m2 t d env with
  | none => rw [ha] at q3; exact (show False from q3).elim
  | some e1 =>
    rw [ha] at q3
    exact ⟨ρ2, m2, env, d, e1, S2, R2, r2, ha, fun σ' R' _ => q3 ρ2 H1 σ' (Ext.refl _ _) S2 R'⟩
theorem oks_set {o i e : Expr} {o' i' e' : IE} {p pos : Pos} (hi : noSlice i = true) (ho : OkE X T C W o o') (hI : OkE X T C W i i') (he : OkE X T C W e e') :
    OkS X T C W (.Assign [.Subscript o i p] e pos) (.setI o' i' e') := by
  have hw : swappedStores [.Subscript o i p] e X.env = pure none := sw_ok (sc := X.env.scope) rfl (by unfold swB swTV; cases e <;> rfl)
  refine PS.imp (ps_asg he (pg_sub ho hI set_list (by cases i <;> first | (intro _; rfl) | cases hi)) (swap_no (.inr rfl)) hw) fun D σ H ⟨ρ, m, env, S, R, q⟩ => ?_
  unfold evalS at q
  simp only [← Res.bind_gc] at q
  have q2 := (q.outgc S R).bind
  refine ⟨ρ, m, env, S, R, q2.imp (fun dv m1 ρ1 H1 E1 S1 q3 v rv => ?_) fun _ _ _ _ _ _ _ z => z⟩
  have R1 := R.mono S E1
  refine ⟨ρ1, m1, env, S1, R1, q3.bind.imp (fun da m2 ρ2 H2 E2 S2 q4 va ra => ?_) fun _ _ _ _ _ _ _ z => z⟩
  refine ⟨ρ2, m2, env, S2, R1.mono S1 E2, q4.bind.imp (fun dk m3 ρ3 H3 E3 S3 q5 vk rk => ?_) fun _ _ _ _ _ _ _ z => z⟩
  have rv3 := (rv.mono S1 E2).mono S2 E3
  have ra3 := ra.mono S2 E3
  have q6 := q5.bind
  unfold setD at q6
  split at q6
  case h_2 => exact (show False from q6).elim
  rename_i a k
  split at q6
  case h_2 => exact (show False from q6).elim
  rename_i xs hx
  split at q6
  case h_2 => exact (show False from q6).elim
  rename_i j hj
  cases ra3 with
  | ref ea =>
  cases rk
  obtain ⟨vs, h1, r1⟩ := lst_at S3 ea hx
  refine ⟨_, vs, k, j, rfl, rfl, h1, by rw [← r1.length]; exact hj, ?_⟩
  obtain ⟨E4, S4⟩ := S3.write ea (r1.set j rv3)
  obtain ⟨ρ5, m5, E5, S5, R5, _, q7⟩ := q6 _ _ E4 S4 _ _ (Ext.refl _ _) S4 .non .non
  exact q7 ρ5 _ σ (Ext.refl _ _) S5 R5
theorem set_step {D : Hp → Prop} {o' i' : IE} {dv : Dat.D} {v : V} {σ : L2.St} {H : Hp} {ρ : List Addr} {m : Mem} {env : EnvD} {β : Type} {f : Mem → Res β} {ok : β → Mem → List Addr → Hp → Prop} (S : Sto X.K T ρ H m) (R : REnv X.K ρ H env σ) (rv : RelD X.K ρ H dv v)
    (h : Then X.K T ρ H ((evalE o' C env m).bind fun a m3 => (evalE i' C env m3).bind fun k m4 => (setD a k dv m4).bind fun _ m5 => f m5) ok (exW X.K W σ))
    (hD : ∀ ρ4 H4 m5, Ext ρ H ρ4 H4 → Sto X.K T ρ4 H4 m5 → REnv X.K ρ4 H4 env σ → Then X.K T ρ4 H4 (f m5) ok (exW X.K W σ) → D H4) :
    gSub (tE X.K T C W o') (tE X.K T C W i') rSetL v σ H fun _ H' => D H' := by
  refine ⟨ρ, m, env, S, R, h.bind.imp (fun da m2 ρ2 H2 E2 S2 q4 va ra => ?_) fun _ _ _ _ _ _ _ z => z⟩
  refine ⟨ρ2, m2, env, S2, R.mono S E2, q4.bind.imp (fun dk m3 ρ3 H3 E3 S3 q5 vk rk => ?_) fun _ _ _ _ _ _ _ z => z⟩
  have rv3 := (rv.mono S E2).mono S2 E3
  have ra3 := ra.mono S2 E3
  have q6 := q5.bind
  unfold setD at q6
  split at q6
  case h_2 => exact (show False from q6).elim
  rename_i a k
  split at q6
  case h_2 => exact (show False from q6).elim
  rename_i xs hx
  split at q6
  case h_2 => exact (show False from q6).elim
  rename_i j hj
  cases ra3 with
  | ref ea =>
  cases rk
  obtain ⟨vs, h1, r1⟩ := lst_at S3 ea hx
  obtain ⟨E4, S4⟩ := S3.write ea (r1.set j rv3)
  exact ⟨_, vs, k, j, rfl, rfl, h1, by rw [← r1.length]; exact hj, hD _ _ _ ((E2.trans E3).trans E4) S4 (((R.mono S E2).mono S2 E3).mono S3 E4) (q6 _ _ E4 S4)⟩
theorem oks_set2 {o1 i1 o2 i2 e1 e2 : Expr} {o1' i1' o2' i2' e1' e2' : IE} {q1 q2 pt p2 pos : Pos} {kk k2 : Nat} (G : Good c C Pg lv T X W) (hi1 : noSlice i1 = true) (hi2 : noSlice i2 = true) (hw : swB c.sc [.Tuple [.Subscript o1 i1 q1, .Subscript o2 i2 q2] kk pt] (.Tuple [e1, e2] k2 p2) = some none) (pl1 : plainE e1 = true) (pl2 : plainE e2 = true)
    (ho1 : OkE X T C W o1 o1') (hI1 : OkE X T C W i1 i1') (ho2 : OkE X T C W o2 o2') (hI2 : OkE X T C W i2 i2') (he1 : OkE X T C W e1 e1') (he2 : OkE X T C W e2 e2') :
    OkS X T C W (.Assign [.Tuple [.Subscript o1 i1 q1, .Subscript o2 i2 q2] kk pt] (.Tuple [e1, e2] k2 p2) pos) (.set2 o1' i1' o2' i2' e1' e2') := by
  have g1 : PG X (.Subscript o1 i1 q1) (gSub (tE X.K T C W o1') (tE X.K T C W i1') rSetL) := pg_sub ho1 hI1 set_list (by cases i1 <;> first | (intro _; rfl) | cases hi1)
  have g2 : PG X (.Subscript o2 i2 q2) (gSub (tE X.K T C W o2') (tE X.K T C W i2') rSetL) := pg_sub ho2 hI2 set_list (by cases i2 <;> first | (intro _; rfl) | cases hi2)
  have pa := pa_cons he1 (pa_cons he2 pa_nil (noStar pl2 _ _)) (noStar pl1 _ _)
  refine PS.imp (ps_asg (pe_tup pa) (pg_tup (n := 2) G.calm (pgs_cons g1 (pgs_cons g2 pgs_nil rfl) rfl) rfl rfl) (swap_no (.inr rfl)) (sw_ok G.sc hw)) fun D σ H ⟨ρ, m, env, S, R, q⟩ => ?_
  unfold evalS at q
  simp only [← Res.bind_gc] at q
  have q2 := (q.outgc S R).bind
  refine ⟨ρ, m, env, S, R, q2.imp (fun d1 m1 ρ1 H1 E1 S1 q3 v1 r1 => ?_) fun _ _ _ _ _ _ _ z => z⟩
  have R1 := R.mono S E1
  refine ⟨ρ1, m1, env, S1, R1, q3.bind.imp (fun d2 m2 ρ2 H2 E2 S2 q4 v2 r2 => ?_) fun _ _ _ _ _ _ _ z => z⟩
  refine ⟨by show 2 ≤ sizeLine; decide, fun p np => ?_⟩
  obtain ⟨Ea, Sa⟩ := S2.aside (o := .tup [v1, v2]) np
  have Ra := (R1.mono S1 E2).mono S2 Ea
  have r1a := (r1.mono S1 E2).mono S2 Ea
  have r2a := r2.mono S2 Ea
  refine ⟨p, [v1, v2], rfl, .inl (.inl upd_same), rfl, v1, [v2], rfl, ?_⟩
  refine set_step (W := W) Sa Ra r1a (q4.ext Ea) fun ρ4 H4 m5 E4 S4 R4 q5 => ?_
  refine ⟨v2, [], rfl, ?_⟩
  refine set_step (W := W) S4 R4 (r2a.mono Sa E4) q5 fun ρ6 H6 m7 E6 S6 R6 q7 => ?_
  refine ⟨rfl, ?_⟩
  obtain ⟨ρ8, m8, E8, S8, R8, _, q9⟩ := q7 ρ6 H6 (Ext.refl _ _) S6 .non .non
  exact q9 ρ8 H6 σ (Ext.refl _ _) S8 R8
theorem oks_if {t : Expr} {a b : List Stmt} {t' : IE} {a' b' : List IS} {pos : Pos} (ht : OkT X T C W t t') (ha : OkB X T C W a a') (hb : OkB X T C W b b') : OkS X T C W (.If t a b pos) (.ifS t' a' b') := by
  refine PS.imp (ps_if ht ha hb) fun D σ H ⟨ρ, m, env, S, R, q⟩ => ?_
  unfold evalS at q
  refine ⟨ρ, m, env, S, R, (q.outT S R).imp (fun d m1 ρ1 H1 E1 S1 ⟨b, e, ρ2, m2, E2, S2, R2, q3⟩ => ⟨b, e, ?_⟩) fun _ _ _ _ _ _ _ z => z⟩
  cases b with
  | true => exact ⟨ρ2, m2, env, S2, R2, q3⟩
  | false => exact ⟨ρ2, m2, env, S2, R2, q3⟩
theorem oks_whl {t : Expr} {b : List Stmt} {t' : IE} {b' : List IS} {pos : Pos} (G : Good c C Pg lv T X W) (ht : OkT X T C W t t') (hb : OkB X T C W b b') : OkS X T C W (.While t b [] pos) (.whl t' b') := by
  refine PS.imp (ps_while G.po ht hb) fun D σ H ⟨ρ, m, env, S, R, q⟩ => ?_
  unfold evalS at q
  refine ⟨fun k σ H => ∃ ρ m env, Sto X.K T ρ H m ∧ REnv X.K ρ H env σ ∧ ThenO X.K T ρ H D W (whileN (fun e m1 => evalE t' C e m1) (fun e m1 => evalB C b' e m1) k env m), ⟨_, ρ, m, env, S, R, q⟩, ?_⟩
  rintro k σ H ⟨ρ, m, env, S, R, q⟩
  cases k with
  | zero => exact (show False from q).elim
  | succ k =>
    unfold whileN at q
    refine ⟨ρ, m, env, S, R, (q.outT S R).imp (fun d m1 ρ1 H1 E1 S1 ⟨b, e, ρ2, m2, E2, S2, R2, q3⟩ => ⟨b, e, ?_⟩) fun _ _ _ _ _ _ _ z => z⟩
    cases b with
    | false => exact q3 ρ2 H1 σ (Ext.refl _ _) S2 R2
    | true =>
      rw [if_pos rfl] at q3
      refine ⟨fun σ H => ∃ ρ m env, Sto X.K T ρ H m ∧ REnv X.K ρ H env σ ∧ ThenO X.K T ρ H D W (whileN (fun e m1 => evalE t' C e m1) (fun e m1 => evalB C b' e m1) k env m), fun σ' H' z => ⟨k, Nat.lt_succ_self _, z⟩, ρ2, m2, env, S2, R2, ?_⟩
      cases eb : evalB C b' env m2 with
      | nx e m3 => rw [eb] at q3; exact fun ρ' H' σ' E S R => ⟨ρ', m3, e, S, R, ThenO.ext q3 E⟩
      | ct e m3 => rw [eb] at q3; exact fun ρ' H' σ' E S R => ⟨ρ', m3, e, S, R, ThenO.ext q3 E⟩
      | bk e m3 => rw [eb] at q3; exact q3
      | rt d m3 => rw [eb] at q3; exact q3
      | exn _ _ _ _ => rw [eb] at q3; exact q3
      | stuck => rw [eb] at q3; exact q3
theorem oks_for {tg it : Expr} {b : List Stmt} {t' : Tg} {it' : II} {b' : List IS} {pos : Pos} (G : Good c C Pg lv T X W) (pl : plainE it = true) (hi : OkI X T C W tg it it') (hg : PG X tg (gT X.K T t')) (hb : OkB X T C W b b') :
    OkS X T C W (.For tg it b [] pos) (.forS t' it' b') := by
  refine PS.imp (ps_for G.po G.calm hi hg hb (noFold pl _)) fun D σ H ⟨ρ, m, env, S, R, q⟩ => ?_
  unfold evalS at q
  refine ⟨ρ, m, env, S, R, (q.out S R).imp (fun I m1 ρ1 H1 E1 S1 q1 J hJ => ?_) fun _ _ _ _ _ _ _ z => z⟩
  have R1 := R.mono S E1
  refine ⟨fun i k σ H => k = I.1.length - i ∧ i ≤ I.1.length ∧ ∃ ρ m env, Ext ρ1 H1 ρ H ∧ Sto X.K T ρ H m ∧ REnv X.K ρ H env σ ∧ ThenO X.K T ρ H D W (forL I.2 t' (fun e m2 => evalB C b' e m2) (I.1.drop i) env m),
    ⟨I.1.length, by simp, Nat.zero_le _, ρ1, m1, env, Ext.refl _ _, S1, R1, q1⟩, ?_⟩
  rintro i k σ2 H2 ⟨rfl, hi, ρ2, m2, env2, E2, S2, R2, q2⟩
  by_cases hlt : i < I.1.length
  · refine .inr ?_
    have hd : I.1[i]? = some I.1[i] := List.getElem?_eq_getElem hlt
    rw [List.drop_eq_getElem_cons hlt] at q2
    unfold forL at q2
    split at q2
    case isFalse => exact (show False from q2).elim
    rename_i hc
    obtain ⟨hgo, hyld⟩ := (hJ i ρ2 H2 m2 E2 S2 hc).1 _ hd
    refine ⟨hgo, fun σ' H' => ∃ ρ m env, Ext ρ1 H1 ρ H' ∧ Sto X.K T ρ H' m ∧ REnv X.K ρ H' env σ' ∧ ThenO X.K T ρ H' D W (forL I.2 t' (fun e m2 => evalB C b' e m2) (I.1.drop (i + 1)) env m),
      fun σ' H' z => ⟨I.1.length - (i + 1), by omega, rfl, hlt, z⟩, fun x H3 y => ?_⟩
    obtain ⟨E3, S3, rx⟩ := hyld x H3 y
    cases ha : asgT m2 t' I.1[i] env2 with
    | none => rw [ha] at q2; exact (show False from q2).elim
    | some e1 =>
      rw [ha] at q2
      refine ⟨ρ2, m2, env2, _, e1, S3, R2.mono S2 E3, rx, ha, fun σ4 R4 _ => ⟨ρ2, m2, e1, S3, R4, ?_⟩⟩
      have q3 := ThenO.ext q2 E3
      simp only at q3
      have E13 := E2.trans E3
      cases eb : evalB C b' e1 m2 with
      | nx e m3 => rw [eb] at q3; exact fun ρ' H' σ' E S R => ⟨ρ', m3, e, E13.trans E, S, R, ThenO.ext q3 E⟩
      | ct e m3 => rw [eb] at q3; exact fun ρ' H' σ' E S R => ⟨ρ', m3, e, E13.trans E, S, R, ThenO.ext q3 E⟩
      | bk e m3 => rw [eb] at q3; exact q3
      | rt d m3 => rw [eb] at q3; exact q3
      | exn _ _ _ _ => rw [eb] at q3; exact q3
      | stuck => rw [eb] at q3; exact q3
  · refine .inl ?_
    have e0 : i = I.1.length := by omega
    subst e0
    rw [List.drop_length] at q2
    unfold forL at q2
    split at q2
    case isFalse => exact (show False from q2).elim
    rename_i hc
    exact ⟨(hJ _ ρ2 H2 m2 E2 S2 hc).2 (Nat.le_refl _), q2 ρ2 H2 σ2 (Ext.refl _ _) S2 R2⟩
theorem oks_ret {e : Expr} {e' : IE} {pos : Pos} (h : OkE X T C W e e') : OkS X T C W (.Return (some e) pos) (.ret e') := by
  refine PS.imp (ps_ret h) fun D σ H ⟨ρ, m, env, S, R, q⟩ => ?_
  unfold evalS at q
  exact ⟨ρ, m, env, S, R, (q.out S R).imp (fun d m1 ρ1 H1 E1 S1 q1 v r => q1 ρ1 H1 v (Ext.refl _ _) S1 r) fun _ _ _ _ _ _ _ z => z⟩
theorem oks_retN {pos : Pos} : OkS X T C W (.Return none pos) .retN := by
  refine PS.imp ps_retN fun D σ H ⟨ρ, m, env, S, R, q⟩ => ?_
  unfold evalS at q
  exact q ρ H .non (Ext.refl _ _) S .non
theorem oks_pass {pos : Pos} : OkS X T C W (.Pass pos) .pass := by
  refine PS.imp ps_pass fun D σ H ⟨ρ, m, env, S, R, q⟩ => ?_
  unfold evalS at q
  exact q ρ H σ (Ext.refl _ _) S R
theorem oks_brk {pos : Pos} : OkS X T C W (.Break pos) .brk := by
  refine PS.imp ps_break fun D σ H ⟨ρ, m, env, S, R, q⟩ => ?_
  unfold evalS at q
  exact q ρ H σ (Ext.refl _ _) S R
theorem oks_cnt {pos : Pos} : OkS X T C W (.Continue pos) .cnt := by
  refine PS.imp ps_continue fun D σ H ⟨ρ, m, env, S, R, q⟩ => ?_
  unfold evalS at q
  exact q ρ H σ (Ext.refl _ _) S R
theorem oks_rais {x t : Str} {p p2 p3 pos : Pos} {j : Nat} (G : Good c C Pg lv T X W) (hg : c.isGl x = true) (hx : x ∈ c.exs) : OkS X T C W (.Raise (some (.Call (.Name x p) [.Constant (.str t) j p2] [] p3)) none pos) (.rais x) := by
  obtain ⟨h1, h2, h3, h4⟩ := G.exs x hx
  refine PS.imp (L2.ps_raise G.calm G.tk (L2.pmk_own PySem.F.excBase_ValueError h1 h2 h3 h4 (G.gl hg) (isGl_of hg).2.1)) fun D σ H ⟨ρ, m, env, S, R, q⟩ => ?_
  unfold evalS at q
  exact q ρ H σ (Ext.refl _ _) S R none trivial
theorem ip_mulX : PIp X .Mult (fun x y H Q => ∃ i j : Int, x = .int i ∧ y = .int j ∧ MulG i j ∧ Q (.int (i * j)) H) := by
  intro pins s σ H x y v u Q I r1 r2 h
  obtain ⟨i, j, e1, e2, hc, q⟩ := h
  subst e1; subst e2
  obtain ⟨t, rfl⟩ := r1
  obtain ⟨t', rfl⟩ := r2
  exact PyProof.Rows.imul_int ⟨.int _, H, I.tok _, ⟨_, rfl⟩, q⟩ (CMulX.ok hc)
theorem aug_go {x : Str} {i : Nat} {e : Expr} {e' : IE} {op : Operator} {p pos : Pos} {Gd : Int → Int → Prop} {f : Int → Int → Int} (G : Good c C Pg lv T X W) (hi : X.N[i]? = some x) (hl : L2.Loc X.env.scope x) (h : OkE X T C W e e')
    (hp : PIp X op (fun x y H Q => ∃ i j : Int, x = .int i ∧ y = .int j ∧ Gd i j ∧ Q (.int (f i j)) H)) (hb : ∀ a b m, binD op (.int a) (.int b) m ≠ .stuck → Gd a b ∧ binD op (.int a) (.int b) m = .ok (.int (f a b)) m) (hf : X.fn x = true) :
    OkS X T C W (.AugAssign (.Name x p) op e pos) (.aug i op e') := by
  refine PS.imp (ps_aug (ti := fun x y H Q => ∃ i j : Int, x = .int i ∧ y = .int j ∧ Gd i j ∧ Q (.int (f i j)) H) G.nd hi hl h hp (.inl hf)) fun D σ H ⟨ρ, m, env, S, R, q⟩ => ?_
  unfold evalS at q
  split at q
  case h_2 => exact (show False from q).elim
  rename_i dx hx
  obtain ⟨vx, h1, rx⟩ := R.2 _ _ hx
  refine ⟨vx, h1, ρ, m, env, S, R, (q.out S R).bind.imp (fun dy m1 ρ1 H1 E1 S1 q1 vy ry => ?_) fun _ _ _ _ _ _ _ z => z⟩
  split at q1
  · rename_i a b
    cases rx
    cases ry
    obtain ⟨hg, e⟩ := hb a b m1 q1.ne
    rw [e] at q1
    exact ⟨a, b, rfl, rfl, hg, q1 ρ1 H1 (Ext.refl _ _) S1 ρ1 H1 _ (Ext.refl _ _) S1 ((R.mono S E1).set (.int _))⟩
  · exact (show False from q1).elim
theorem oks_aug {x : Str} {i : Nat} {e : Expr} {e' : IE} {op : Operator} {p pos : Pos} (G : Good c C Pg lv T X W) (hbk : c.blk = false) (ho : op = .Add ∨ op = .Sub ∨ op = .Mult) (hi : cTg c 1 (.Name x p) = some (.var i)) (h : OkE X T C W e e') :
    OkS X T C W (.AugAssign (.Name x p) op e pos) (.aug i op e') := by
  simp only [cTg] at hi
  split at hi
  case h_2 => cases hi
  rename_i i' hs
  split at hi
  case isFalse => cases hi
  rename_i hk
  cases hi
  obtain ⟨h1, h2, h3⟩ := slot_ok hs
  have hloc : L2.Loc X.env.scope x := by
    rw [G.sc]
    rcases hk with z | z
    · exact .inl z
    · exact .inr z.1
  rcases ho with rfl | rfl | rfl
  · exact aug_go (Gd := fun _ _ => True) (f := fun a b => a + b) G (by rw [G.hN]; exact h1) hloc h (fun pins s σ H x y v u Q I r1 r2 ⟨i, j, e1, e2, _, q⟩ => ip_add pins s σ H x y v u Q I r1 r2 ⟨i, j, e1, e2, q⟩) (fun a b m _ => ⟨trivial, rfl⟩) (G.fn hbk x)
  · exact aug_go (Gd := fun _ _ => True) (f := fun a b => a - b) G (by rw [G.hN]; exact h1) hloc h (fun pins s σ H x y v u Q I r1 r2 ⟨i, j, e1, e2, _, q⟩ => ip_sub pins s σ H x y v u Q I r1 r2 ⟨i, j, e1, e2, q⟩) (fun a b m _ => ⟨trivial, rfl⟩) (G.fn hbk x)
  · refine aug_go (Gd := MulG) (f := fun a b => a * b) G (by rw [G.hN]; exact h1) hloc h ip_mulX (fun a b m hn => ?_) (G.fn hbk x)
    simp only [binD, mulD] at hn ⊢
    split at hn
    · rename_i hc
      exact ⟨hc, by rw [if_pos hc]⟩
    · exact absurd rfl hn
theorem par_go {l : List IE} {t : Tg} {D : Ends} {ρ : List Addr} {H : Hp} {m : Mem} {env : EnvD} {σ : L2.St} {K : PySem.W.Frag} {R2 : List V → Hp → Prop} (S : Sto K T ρ H m) (R : REnv K ρ H env σ) (q : ThenO K T ρ H D W (evalS C (.asg t (.tup l)) env m))
    (k : ∀ (ds : List Dat.D) (vs : List V) (m2 : Mem) (ρ2 : List Addr) (H2 : Hp) (e1 : EnvD), REnv K ρ2 H2 env σ → RelDs K ρ2 H2 ds vs → asgT m2 t (.tup ds) env = some e1 → (∀ σ', REnv K ρ2 H2 e1 σ' → D.nx σ' H2) → R2 vs H2) :
    tA K T C W l σ H R2 := by
  unfold evalS evalE at q
  refine ⟨ρ, m, env, S, R, ?_⟩
  cases eE : evalEs l C env m with
  | stuck => rw [eE] at q; exact q
  | exn c p m1 => rw [eE] at q; exact fun ρ' H' E S' dd rp => q ρ' H' σ E S' (R.mono S E) dd rp
  | ok ds m1 =>
    rw [eE] at q
    simp only [Res.bind] at q
    by_cases hz : ds.length ≤ sizeLine
    · rw [if_pos hz] at q
      simp only [Res.gc, Res.out] at q
      intro ρ1 H1 E1 S1 vs r
      obtain ⟨ρ2, E2, S2, r2⟩ := gcs_ok E1 S1 S.len r
      cases ha : asgT (gcM m.length (.tup ds) m1) t (.tup ds) env with
      | none => rw [ha] at q; exact (show False from q).elim
      | some e1 =>
        rw [ha] at q
        exact k ds vs _ ρ2 H1 e1 (R.mono S E2) r2 ha fun σ' R' => q ρ2 H1 σ' E2 S2 R'
    · rw [if_neg hz] at q
      exact (show False from q).elim
theorem oks_par {x y : Str} {a b : Expr} {i j : Nat} {l : List IE} {px py pt p2 pos : Pos} {k k2 : Nat} (G : Good c C Pg lv T X W) (hw : swB c.sc [.Tuple [.Name x px, .Name y py] k pt] (.Tuple [a, b] k2 p2) = some (some [x, y]))
    (hx : c.sc.names.lookup x = some .local) (hy : c.sc.names.lookup y = some .local) (hi : c.slot x = some i) (hj : c.slot y = some j) (hij : i ≠ j) (ha : OkA X T C W [a, b] l) :
    OkS X T C W (.Assign [.Tuple [.Name x px, .Name y py] k pt] (.Tuple [a, b] k2 p2) pos) (.asg (.tup [.var i, .var j]) (.tup l)) := by
  refine PS.imp (ps_par (i := i) (j := j) G.calm G.nd (by rw [G.hN]; exact (slot_ok hi).1) (by rw [G.hN]; exact (slot_ok hj).1) hij (by rw [G.sc]; exact hx) (by rw [G.sc]; exact hy) ha (sw_ok G.sc hw) rfl) fun D σ H ⟨ρ, m, env, S, R, q⟩ => ?_
  refine par_go S R q fun ds vs m2 ρ2 H2 e1 R1 r he hk => ?_
  simp only [asgT, seqD] at he
  cases r with
  | nil => simp [asgTs] at he
  | cons r1 r =>
    cases r with
    | nil => simp [asgTs] at he
    | cons r2 r =>
      cases r with
      | cons _ _ => simp [asgTs] at he
      | nil =>
        simp only [asgTs, asgT, Option.bind_eq_some_iff] at he
        obtain ⟨e2, h2, e3, h3, h4⟩ := he
        split at h2
        case isFalse => cases h2
        cases h2
        split at h3
        case isFalse => cases h3
        cases h3
        cases h4
        exact ⟨_, _, rfl, hk _ ((R1.set r1).set r2)⟩
theorem oks_par3 {x y z : Str} {a b d : Expr} {i j h : Nat} {l : List IE} {px py pz pt p2 pos : Pos} {k k2 : Nat} (G : Good c C Pg lv T X W) (hw : swB c.sc [.Tuple [.Name x px, .Name y py, .Name z pz] k pt] (.Tuple [a, b, d] k2 p2) = some (some [x, y, z]))
    (hx : c.sc.names.lookup x = some .local) (hy : c.sc.names.lookup y = some .local) (hz : c.sc.names.lookup z = some .local) (hi : c.slot x = some i) (hj : c.slot y = some j) (hh : c.slot z = some h) (hij : i ≠ j) (hih : i ≠ h) (hjh : j ≠ h) (ha : OkA X T C W [a, b, d] l) :
    OkS X T C W (.Assign [.Tuple [.Name x px, .Name y py, .Name z pz] k pt] (.Tuple [a, b, d] k2 p2) pos) (.asg (.tup [.var i, .var j, .var h]) (.tup l)) := by
  refine PS.imp (ps_par3 (i := i) (j := j) (l := h) G.calm G.nd (by rw [G.hN]; exact (slot_ok hi).1) (by rw [G.hN]; exact (slot_ok hj).1) (by rw [G.hN]; exact (slot_ok hh).1) hij hih hjh (by rw [G.sc]; exact hx) (by rw [G.sc]; exact hy) (by rw [G.sc]; exact hz) ha (sw_ok G.sc hw) rfl) fun D σ H ⟨ρ, m, env, S, R, q⟩ => ?_
  refine par_go S R q fun ds vs m2 ρ2 H2 e1 R1 r he hk => ?_
  simp only [asgT, seqD] at he
  cases r with
  | nil => simp [asgTs] at he
  | cons r1 r =>
    cases r with
    | nil => simp [asgTs] at he
    | cons r2 r =>
      cases r with
      | nil => simp [asgTs] at he
      | cons r3 r =>
        cases r with
        | cons _ _ => simp [asgTs] at he
        | nil =>
          simp only [asgTs, asgT, Option.bind_eq_some_iff] at he
          obtain ⟨e2, h2, e3, h3, e4, h4, h5⟩ := he
          split at h2
          case isFalse => cases h2
          cases h2
          split at h3
          case isFalse => cases h3
          cases h3
          split at h4
          case isFalse => cases h4
          cases h4
          cases h5
          exact ⟨_, _, _, rfl, hk _ (((R1.set r1).set r2).set r3)⟩
end
end Dat

/-! Dat15 -/
set_option linter.all false
set_option maxRecDepth 100000
set_option maxHeartbeats 4000000
/-! Dat15: every compiled statement. -/
namespace Dat
open PySem PySem.Spec L2 PyProof.Rows

def SndS (n : Nat) : Prop := ∀ (c : Ctx) (s : Stmt) (ir : IS), cS n c s = some ir → ∀ (C : Ctl) (Pg : Prog) (lv : Nat) (T : List (Addr × Str)) (X : Cx) (W : WX), Good c C Pg lv T X W → c.blk = false → OkS X T C W s ir
def SndB (n : Nat) : Prop := ∀ (c : Ctx) (s : List Stmt) (ir : List IS), cB n c s = some ir → ∀ (C : Ctl) (Pg : Prog) (lv : Nat) (T : List (Addr × Str)) (X : Cx) (W : WX), Good c C Pg lv T X W → c.blk = false → OkB X T C W s ir
section
variable {X : Cx} {T : List (Addr × Str)} {C : Ctl} {W : WX} {c : Ctx} {Pg : Prog} {lv : Nat} {n : Nat}
theorem swYes_ok {env : Env} {sc : Scope} {y : Str} {py : Pos} {elt : Expr} {gs : List Comprehension} {scope : Scope} {pos : Pos} {l : Nat} (hs : env.scope = sc) (h : swYes sc y py (.ListComp elt gs scope pos) = true) :
    swapsWith (.ListComp elt gs scope pos) (some (.Name y py)) l env = pure true ∧ sc.names.lookup y = some .local := by
  subst hs
  simp only [swYes, Bool.and_eq_true, decide_eq_true_eq, Bool.not_eq_true'] at h
  obtain ⟨h1, h2, h3, h4⟩ := h
  exact ⟨sw_true h1 h2 h3 h4, h2⟩
theorem snd_setc (x : Str) (py : Pos) (elt tg it : Expr) (ifs : List Expr) (scope : Scope) (pos spos : Pos) {ir : IE} {i : Nat} (h : cE n c (.ListComp elt [⟨tg, it, ifs, 0⟩] scope pos) = some ir) (hi : c.slot x = some i) (hy : swYes c.sc x py (.ListComp elt [⟨tg, it, ifs, 0⟩] scope pos) = true)
    (G : Good c C Pg lv T X W) : OkS X T C W (.Assign [.Name x py] (.ListComp elt [⟨tg, it, ifs, 0⟩] scope pos) spos) (.asg (.var i) ir) := by
  cases n with
  | zero => simp [cE] at h
  | succ n =>
  obtain ⟨HE, _, _, HI⟩ := snd_all n
  simp only [cE] at h
  split at h
  · rename_i hc
    simp only [Option.bind_eq_some_iff] at h
    obtain ⟨it', hi', tg', ht, t', hif, e', he, h⟩ := h
    split at h
    · rename_i hv
      cases h
      obtain ⟨hy1, hy2⟩ := swYes_ok (l := spos.line) G.sc hy
      have ok : BlkOk X.N X.env.scope scope (ownOf c.N scope) := by
        rw [G.hN, G.sc]
        exact blkOk_by hc.2.1
      refine PS.imp (ps_setLc (i := i) (own := ownOf c.N scope) (te := tE X.K T C W0 e') (tt := tT X.K T C W0 t') (g := gT X.K T tg') (wi := tI X.K T C W it') G.calm G.nd (by rw [G.hN]; exact (slot_ok hi).1) (by rw [G.sc]; exact hy2) hy1 (HI _ _ _ _ hi' _ _ _ _ _ _ G) ok (fun s H Ca cl fp => ok_tg (G.blk scope s H Ca cl fp) _ _ _ ht) (fun s H Ca cl fp => ?_) (fun s H Ca cl fp => (HE _ _ _ he _ _ _ _ _ _ (G.blk scope s H Ca cl fp)).1) (noFold hc.2.2 _)) fun D σ H ⟨ρ, m, env, S, R, q⟩ => ?_
      · cases ifs with
        | nil => cases hif; exact ok_yes
        | cons i r =>
          cases r with
          | nil => exact pts_one (HE _ _ _ hif _ _ _ _ _ _ (G.blk scope s H Ca cl fp)).2
          | cons _ _ => cases hif
      · unfold evalS at q
        refine comp_tlc (C := C) (W := W) (c := c) hv ⟨ρ, m, env, S, R, (q.outgc S R).imp (fun d m1 ρ1 H1 E1 S1 q1 v r => ?_) fun _ _ _ _ _ _ _ z => z⟩
        obtain ⟨ρ2, m2, E2, S2, R2, r2, q3⟩ := q1 v r
        simp only [asgT] at q3
        split at q3
        · rename_i e1 ha
          split at ha
          case isFalse => cases ha
          cases ha
          exact q3 ρ2 H1 _ (Ext.refl _ _) S2 (R2.set r2)
        · exact (show False from q3).elim
    · cases h
  · cases h
theorem snd_setc2 (x : Str) (py : Pos) (elt : Expr) (g1 g2 : Comprehension) (scope : Scope) (pos spos : Pos) {ir : IE} {i : Nat} (h : cE n c (.ListComp elt [g1, g2] scope pos) = some ir) (hi : c.slot x = some i) (hy : swYes c.sc x py (.ListComp elt [g1, g2] scope pos) = true)
    (G : Good c C Pg lv T X W) : OkS X T C W (.Assign [.Name x py] (.ListComp elt [g1, g2] scope pos) spos) (.asg (.var i) ir) := by
  cases n with
  | zero => simp [cE] at h
  | succ n =>
  obtain ⟨HE, _, _, HI⟩ := snd_all n
  obtain ⟨tg, it, tg1, y, py1, it', tg', v1, tg1', e', rfl, rfl, hb, hp, hi', ht, hsl, ht1, he, hv, hv1, rfl⟩ := comp2_inv h
  obtain ⟨hy1, hy2⟩ := swYes_ok (l := spos.line) G.sc hy
  refine PS.imp (oks_setc2 (i := i) G hb hp (by rw [G.hN]; exact (slot_ok hi).1) (by rw [G.sc]; exact hy2) hy1 (HI _ _ _ _ hi' _ _ _ _ _ _ G) hsl (fun s H Ca cl fp => ok_tg (G.blk scope s H Ca cl fp) _ _ _ ht) (fun s H Ca cl fp => ok_tg (G.blk scope s H Ca cl fp) _ _ _ ht1) (fun s H Ca cl fp => (HE _ _ _ he _ _ _ _ _ _ (G.blk scope s H Ca cl fp)).1) hv1) fun D σ H ⟨ρ, m, env, S, R, q⟩ => ?_
  unfold evalS at q
  refine comp2_tlc (C := C) (W := W) (c := c) hv ⟨ρ, m, env, S, R, (q.outgc S R).imp (fun d m1 ρ1 H1 E1 S1 q1 v r => ?_) fun _ _ _ _ _ _ _ z => z⟩
  obtain ⟨ρ2, m2, E2, S2, R2, r2, q3⟩ := q1 v r
  simp only [asgT] at q3
  split at q3
  · rename_i e1 ha
    split at ha
    case isFalse => cases ha
    cases ha
    exact q3 ρ2 H1 _ (Ext.refl _ _) S2 (R2.set r2)
  · exact (show False from q3).elim
theorem snd_asg {tg e : Expr} {pos : Pos} {ir : IS} (hc : (isComp e = false ∨ nameE tg = false) ∧ subE tg = false ∧ swB c.sc [tg] e = some none) (h : ((cTg c n tg).bind fun t => (cE n c e).bind fun e' => some (IS.asg t e')) = some ir) (G : Good c C Pg lv T X W) : OkS X T C W (.Assign [tg] e pos) ir := by
  simp only [Option.bind_eq_some_iff] at h
  obtain ⟨t, ht, e', he, h⟩ := h
  cases h
  exact oks_asg (fun _ => swap_no hc.1) (cTg_plain ht) (sw_ok G.sc hc.2.2) (ok_tg G _ _ _ ht) ((snd_all n).1 _ _ _ he _ _ _ _ _ _ G).1
theorem snd_par2 {x y : Str} {a b : Expr} {px py pt p2 pos : Pos} {k k2 : Nat} {ir : IS} (h : cS (n + 1) c (.Assign [.Tuple [.Name x px, .Name y py] k pt] (.Tuple [a, b] k2 p2) pos) = some ir) (G : Good c C Pg lv T X W) : OkS X T C W (.Assign [.Tuple [.Name x px, .Name y py] k pt] (.Tuple [a, b] k2 p2) pos) ir := by
  simp only [cS] at h
  split at h
  · rename_i hw
    split at h
    · rename_i hl
      simp only [Option.bind_eq_some_iff] at h
      obtain ⟨l, hl2, i, hi, j, hj, h⟩ := h
      split at h
      · rename_i hij
        cases h
        exact oks_par G hw hl.1 hl.2 hi hj hij ((snd_all n).2.1 _ _ _ hl2 _ _ _ _ _ _ G)
      · cases h
    · cases h
  · split at h
    · rename_i hw
      exact snd_asg ⟨.inl rfl, rfl, hw⟩ h G
    · cases h
theorem snd_par3 {x y z : Str} {a b d : Expr} {px py pz pt p2 pos : Pos} {k k2 : Nat} {ir : IS} (h : cS (n + 1) c (.Assign [.Tuple [.Name x px, .Name y py, .Name z pz] k pt] (.Tuple [a, b, d] k2 p2) pos) = some ir) (G : Good c C Pg lv T X W) : OkS X T C W (.Assign [.Tuple [.Name x px, .Name y py, .Name z pz] k pt] (.Tuple [a, b, d] k2 p2) pos) ir := by
  simp only [cS] at h
  split at h
  · rename_i hw
    split at h
    · rename_i hl
      simp only [Option.bind_eq_some_iff] at h
      obtain ⟨l, hl2, i, hi, j, hj, hh, hhh, h⟩ := h
      split at h
      · rename_i hij
        cases h
        exact oks_par3 G hw hl.1 hl.2.1 hl.2.2 hi hj hhh hij.1 hij.2.1 hij.2.2 ((snd_all n).2.1 _ _ _ hl2 _ _ _ _ _ _ G)
      · cases h
    · cases h
  · split at h
    · rename_i hw
      exact snd_asg ⟨.inl rfl, rfl, hw⟩ h G
    · cases h
theorem snd_assign {ts : List Expr} {e : Expr} {pos : Pos} {ir : IS} (h : cS (n + 1) c (.Assign ts e pos) = some ir) (G : Good c C Pg lv T X W) : OkS X T C W (.Assign ts e pos) ir := by
  by_cases h1 : ∃ x py elt tg it ifs as scope p, ts = [.Name x py] ∧ e = .ListComp elt [⟨tg, it, ifs, as⟩] scope p
  · obtain ⟨x, py, elt, tg, it, ifs, as, scope, p, rfl, rfl⟩ := h1
    simp only [cS] at h
    split at h
    · rename_i hy
      simp only [Option.bind_eq_some_iff] at h
      obtain ⟨e', he, i, hi, h⟩ := h
      cases h
      have e0 : as = 0 := by
        cases n with
        | zero => simp [cE] at he
        | succ n =>
          simp only [cE] at he
          split at he
          · rename_i hc
            exact hc.1
          · cases he
      subst e0
      exact snd_setc x py elt tg it ifs scope p pos he hi hy G
    · split at h
      · rename_i hn
        simp only [Option.bind_eq_some_iff] at h
        obtain ⟨t, ht, e', he, h⟩ := h
        cases h
        exact oks_asg (fun _ => swap_cell (by rw [G.sc]; exact hn)) (cTg_plain ht) (sw_ok G.sc rfl) (ok_tg G _ _ _ ht) ((snd_all n).1 _ _ _ he _ _ _ _ _ _ G).1
      · cases h
  by_cases h1b : ∃ x py elt g1 g2 scope p, ts = [.Name x py] ∧ e = .ListComp elt [g1, g2] scope p
  · obtain ⟨x, py, elt, g1, g2, scope, p, rfl, rfl⟩ := h1b
    simp only [cS] at h
    split at h
    · rename_i hy
      simp only [Option.bind_eq_some_iff] at h
      obtain ⟨e', he, i, hi, h⟩ := h
      cases h
      exact snd_setc2 x py elt g1 g2 scope p pos he hi hy G
    · cases h
  by_cases h2 : ∃ o i p, ts = [.Subscript o i p]
  · obtain ⟨o, i, p, rfl⟩ := h2
    simp only [cS] at h
    split at h
    · rename_i hi
      simp only [Option.bind_eq_some_iff] at h
      obtain ⟨e', he, o', ho, i', hi', h⟩ := h
      cases h
      have A := (snd_all n).1
      exact oks_set hi (A _ _ _ ho _ _ _ _ _ _ G).1 (A _ _ _ hi' _ _ _ _ _ _ G).1 (A _ _ _ he _ _ _ _ _ _ G).1
    · cases h
  by_cases h3 : ∃ x px y py k pt a b k2 p2, ts = [.Tuple [.Name x px, .Name y py] k pt] ∧ e = .Tuple [a, b] k2 p2
  · obtain ⟨x, px, y, py, k, pt, a, b, k2, p2, rfl, rfl⟩ := h3
    exact snd_par2 h G
  by_cases h4 : ∃ x px y py z pz k pt a b d k2 p2, ts = [.Tuple [.Name x px, .Name y py, .Name z pz] k pt] ∧ e = .Tuple [a, b, d] k2 p2
  · obtain ⟨x, px, y, py, z, pz, k, pt, a, b, d, k2, p2, rfl, rfl⟩ := h4
    exact snd_par3 h G
  by_cases h5 : ∃ o1 i1 q1 o2 i2 q2 k pt a b k2 p2, ts = [.Tuple [.Subscript o1 i1 q1, .Subscript o2 i2 q2] k pt] ∧ e = .Tuple [a, b] k2 p2
  · obtain ⟨o1, i1, q1, o2, i2, q2, k, pt, a, b, k2, p2, rfl, rfl⟩ := h5
    simp only [cS] at h
    split at h
    · rename_i hc
      simp only [Option.bind_eq_some_iff] at h
      obtain ⟨a', ha, b', hb, o1', ho1, i1', hi1, o2', ho2, i2', hi2, h⟩ := h
      cases h
      have A := (snd_all n).1
      exact oks_set2 G hc.1 hc.2.1 hc.2.2 (cE_plain ha) (cE_plain hb) (A _ _ _ ho1 _ _ _ _ _ _ G).1 (A _ _ _ hi1 _ _ _ _ _ _ G).1 (A _ _ _ ho2 _ _ _ _ _ _ G).1 (A _ _ _ hi2 _ _ _ _ _ _ G).1 (A _ _ _ ha _ _ _ _ _ _ G).1 (A _ _ _ hb _ _ _ _ _ _ G).1
    · cases h
  cases ts with
  | nil => simp [cS] at h
  | cons tg r =>
    cases r with
    | cons _ _ => simp [cS] at h
    | nil =>
      rw [cS] at h
      · split at h
        · rename_i hc
          exact snd_asg hc h G
        · cases h
      · rintro x py elt tg' it ifs as scope p e1 e2
        exact h1 ⟨_, _, _, _, _, _, _, _, _, by rw [e2], e1⟩
      · rintro x py elt g1 g2 scope p e1 e2
        exact h1b ⟨_, _, _, _, _, _, _, by rw [e2], e1⟩
      · rintro o i p e1
        exact h2 ⟨_, _, _, by rw [e1]⟩
      · rintro x px y py k pt a b k2 p2 e1 e2
        exact h3 ⟨_, _, _, _, _, _, _, _, _, _, by rw [e2], e1⟩
      · rintro x px y py z pz k pt a b d k2 p2 e1 e2
        exact h4 ⟨_, _, _, _, _, _, _, _, _, _, _, _, _, by rw [e2], e1⟩
      · rintro o1 i1 q1 o2 i2 q2 k pt a b k2 p2 e1 e2
        exact h5 ⟨_, _, _, _, _, _, _, _, _, _, _, _, by rw [e2], e1⟩
theorem snd_S (HB : SndB n) : SndS (n + 1) := by
  intro c s ir h C Pg lv T X W G hbk
  obtain ⟨HE, HEs, HO, HI⟩ := snd_all n
  cases s with
  | Expr e pos =>
    simp only [cS] at h
    split at h
    · rename_i hc
      rw [Option.bind_eq_some_iff] at h
      obtain ⟨e', he, h⟩ := h
      cases h
      exact oks_expr hc (HE _ _ _ he _ _ _ _ _ _ G).1
    · cases h
  | Assign ts e pos => exact snd_assign h G
  | AugAssign tg op e pos =>
    cases tg with
    | Name x p =>
      simp only [cS] at h
      split at h
      · rename_i ho
        split at h
        · rename_i i hi
          rw [Option.bind_eq_some_iff] at h
          obtain ⟨e', he, h⟩ := h
          cases h
          exact oks_aug G hbk ho hi (HE _ _ _ he _ _ _ _ _ _ G).1
        · cases h
      · cases h
    | _ => simp [cS] at h
  | If t a b pos =>
    simp only [cS, Option.bind_eq_some_iff] at h
    obtain ⟨t', ht, a', ha, b', hb, h⟩ := h
    cases h
    exact oks_if (HE _ _ _ ht _ _ _ _ _ _ G).2 (HB _ _ _ ha _ _ _ _ _ _ G hbk) (HB _ _ _ hb _ _ _ _ _ _ G hbk)
  | While t b o pos =>
    cases o with
    | nil =>
      simp only [cS, Option.bind_eq_some_iff] at h
      obtain ⟨t', ht, b', hb, h⟩ := h
      cases h
      exact oks_whl G (HE _ _ _ ht _ _ _ _ _ _ G).2 (HB _ _ _ hb _ _ _ _ _ _ G hbk)
    | cons _ _ => simp [cS] at h
  | For tg it b o pos =>
    cases o with
    | nil =>
      simp only [cS] at h
      split at h
      · rename_i pl
        simp only [Option.bind_eq_some_iff] at h
        obtain ⟨it', hi, tg', ht, b', hb, h⟩ := h
        cases h
        exact oks_for G pl (HI _ _ _ _ hi _ _ _ _ _ _ G) (ok_tg G _ _ _ ht) (HB _ _ _ hb _ _ _ _ _ _ G hbk)
      · cases h
    | cons _ _ => simp [cS] at h
  | Return e pos =>
    cases e with
    | none => simp only [cS] at h; cases h; exact oks_retN
    | some e =>
      simp only [cS, Option.bind_eq_some_iff] at h
      obtain ⟨e', he, h⟩ := h
      cases h
      exact oks_ret (HE _ _ _ he _ _ _ _ _ _ G).1
  | Raise e f pos =>
    by_cases hf : ∃ x p t j p2 p3, e = some (.Call (.Name x p) [.Constant (.str t) j p2] [] p3) ∧ f = none
    · obtain ⟨x, p, t, j, p2, p3, rfl, rfl⟩ := hf
      simp only [cS] at h
      split at h
      · rename_i hc
        cases h
        exact oks_rais G hc.1 hc.2
      · cases h
    · rw [cS] at h
      · cases h
      all_goals first
        | (intros; contradiction)
        | (intro x p t j p2 p3 p4 e1; cases e1; exact hf ⟨_, _, _, _, _, _, rfl, rfl⟩)
  | Pass pos => simp only [cS] at h; cases h; exact oks_pass
  | Break pos => simp only [cS] at h; cases h; exact oks_brk
  | Continue pos => simp only [cS] at h; cases h; exact oks_cnt
  | _ => simp [cS] at h
theorem snd_B (HS : SndS n) (HB : SndB n) : SndB (n + 1) := by
  intro c s ir h C Pg lv T X W G hbk
  cases s with
  | nil =>
    simp only [cB, Option.some.injEq] at h
    subst h
    exact okb_nil
  | cons s r =>
    simp only [cB, Option.bind_eq_some_iff] at h
    obtain ⟨s', hs, r', hr, h⟩ := h
    cases h
    refine okb_cons ?_ (HB _ _ _ hr _ _ _ _ _ _ G hbk)
    cases e : cS n c s with
    | some i =>
      rw [e] at hs
      cases hs
      exact HS _ _ _ e _ _ _ _ _ _ G hbk
    | none =>
      rw [e] at hs
      exact oks_stk G hs
theorem snd_SB : ∀ n, SndS n ∧ SndB n
  | 0 => ⟨fun _ _ _ h => by simp [cS] at h, fun _ _ _ h => by simp [cB] at h⟩
  | n + 1 => by
    obtain ⟨h1, h2⟩ := snd_SB n
    exact ⟨snd_S h2, snd_B h1 h2⟩
end
end Dat

/-! Dat16 -/
set_option linter.all false
set_option maxRecDepth 100000
set_option maxHeartbeats 4000000
/-! Dat16: the defs of a program, at every level. -/
namespace Dat
open PySem PySem.Spec L2 PyProof.Rows
structure DefI where
  name : Str
  ps : List Str
  params : Arguments
  body : List Stmt
  scope : Scope
  N : List Str
  lam : Bool
  gen : Bool
  hand : Bool
  ir : Option (List IS)
structure LawI where
  defs : List DefI
  told : List (Nat × List (Str × Str))
  glos : List (Str × D)
  exs : List Str
  subs : List ((Str × Str) × Bool)
  turns : Nat
def LawI.fns (L : LawI) : List (Str × List Str) := L.defs.map fun d => (d.name, d.ps)
def LawI.ctx (L : LawI) (d : DefI) : Ctx := ⟨d.N, d.scope, false, L.fns, L.glos, L.exs, L.told, d.lam && !d.gen, [], d.gen⟩
def DefI.fi (d : DefI) : FnI := ⟨d.ps.length, d.N.length, d.ir.getD [.brk]⟩
def LawI.sub (L : LawI) (a b : Str) : Option Bool := L.subs.lookup (a, b)
def LawI.prog (L : LawI) : Prog := ⟨L.defs.map DefI.fi, L.told, L.sub, L.turns⟩
def BindOk (d : DefI) : Prop := ∀ (kV doc pm : Value) (an : Option Addr) (cdv ct : Value) (us : List Value), us.length = d.ps.length → bindArgs (PySem.W.fnOf d.name d.name d.params d.body d.scope .none kV doc pm an cdv ct) ⟨us, []⟩ = pure (d.ps.zip us)
inductive AllB : List DefI → Prop
  | nil : AllB []
  | cons {d : DefI} {l : List DefI} (h : BindOk d) (r : AllB l) : AllB (d :: l)
theorem AllB.at_ : ∀ {l : List DefI}, AllB l → ∀ d ∈ l, BindOk d
  | _, .nil, _, h => by cases h
  | _, .cons h r, d, hd => by
    rcases List.mem_cons.mp hd with e | e
    · rw [e]; exact h
    · exact r.at_ d e
/-- what is checked of a def -/
def defB (L : LawI) (n : Nat) (d : DefI) : Bool :=
  decide (d.scope.kind = .function) && (!d.scope.isCoroutine && (!d.scope.isGenerator && (decide d.N.Nodup && (decide (d.N.take d.ps.length = d.ps) &&
  (d.ps.all (fun x => decide (d.scope.names.lookup x = some .local ∨ d.scope.names.lookup x = some .cell)) && (d.scope.names.all (fun y => decide (y.2 ≠ .free))))))))
theorem defB_sc {L : LawI} {n : Nat} {d : DefI} (h : defB L n d = true) : FnScope d.N d.ps d.scope := by
  simp only [defB, Bool.and_eq_true, decide_eq_true_eq, Bool.not_eq_true', List.all_eq_true] at h
  obtain ⟨h1, h2, h3, h4, h5, h6, h7⟩ := h
  exact ⟨h1, h2, h3, h4, h5, h6, h7⟩
/-- compiled as written down -/
inductive AllC (L : LawI) (n : Nat) : List DefI → Prop
  | nil : AllC L n []
  | cons {d : DefI} {l : List DefI} (h : d.ir = none ∨ cB n (L.ctx d) d.body = d.ir ∨ d.hand = true) (r : AllC L n l) : AllC L n (d :: l)
theorem AllC.at_ {L : LawI} {n : Nat} : ∀ {l : List DefI}, AllC L n l → ∀ d ∈ l, d.ir = none ∨ cB n (L.ctx d) d.body = d.ir ∨ d.hand = true
  | _, .nil, _, h => by cases h
  | _, .cons h r, d, hd => by
    rcases List.mem_cons.mp hd with e | e
    · rw [e]; exact h
    · exact r.at_ d e
structure Checked (L : LawI) (n : Nat) : Prop where
  sc : ∀ d ∈ L.defs, FnScope d.N d.ps d.scope
  bnd : ∀ d ∈ L.defs, BindOk d
  comp : ∀ d ∈ L.defs, d.ir = none ∨ cB n (L.ctx d) d.body = d.ir ∨ d.hand = true
/-- what the head tells -/
structure Facts (L : LawI) (T : List (Addr × Str)) (K : PySem.W.Frag) (mg : Str → Option Value) : Prop where
  fund : ∀ d ∈ L.defs, ∃ fd, FunD K d.name d.name d.params d.body d.scope [] [] (He.ga K d.name) fd
  glo : ∀ d ∈ L.defs, mg d.name = some (.ref (He.ga K d.name))
  glos : ∀ x d, L.glos.lookup x = some d → ∃ u v, mg x = some u ∧ RelV v u ∧ ∀ ρ H, RelD K ρ H d v
  blt : ∀ x ∈ bltNames, mg x = none
  exm : ∀ c c' b, L.sub c c' = some b → PySem.W.exmOne K (.ref (He.ga K c)) (.ref (He.ga K c')) = some b
  exs : ∀ x ∈ L.exs, PySem.W.excIn K (He.ga K x) He.veBase "ValueError.__new__" = true ∧ mg x = some (.ref (He.ga K x)) ∧ PySem.W.keepIn K (.ref (He.ga K x)) = true ∧
    PySem.W.subIn K (.ref (He.ga K x)) (.type "BaseException") = some true ∧ PySem.W.typeIn K (.ref (He.ga K x)) = some (.type "type")
  lam : ∀ d ∈ L.defs, d.lam = true → d.gen = false → ((He.cT K (d.name, none)).2, (d.name ++ ".<locals>.") ++ "<lambda>") ∈ T ∧ ∀ p ∈ T, p.1 = (He.cT K (d.name, none)).2 → p.2 = (d.name ++ ".<locals>.") ++ "<lambda>"
  gen : ∀ d ∈ L.defs, d.gen = true → ((He.cT K (d.name, none)).2, (d.name ++ ".<locals>.") ++ "<genexpr>") ∈ T ∧ ∀ p ∈ T, p.1 = (He.cT K (d.name, none)).2 → p.2 = (d.name ++ ".<locals>.") ++ "<genexpr>"
  told : ∀ c : Ctx, c.fns = L.fns → ∀ i cl, L.told.lookup i = some cl → TolOk K mg c i cl
theorem spF_len {L : LawI} {K : PySem.W.Frag} {T : List (Addr × Str)} {n i : Nat} {d : DefI} (hd : L.defs[i]? = some d) {vs : List V} {H : Hp} {Q : VK} {E : XK} (h : spF K T L.prog n i vs H Q E) : vs.length = d.ps.length := by
  obtain ⟨ρ, m, ds, S, r, q⟩ := h
  obtain ⟨fi, hf, hl⟩ := runF_len q.ne
  have e : L.prog.fns[i]? = some d.fi := by
    show (L.defs.map DefI.fi)[i]? = _
    rw [List.getElem?_map, hd] <;> rfl
  rw [e] at hf
  cases hf
  rw [← r.length, hl] <;> rfl
theorem startE_rel {K : PySem.W.Frag} {ρ : List Addr} {H : Hp} {ds : List D} {vs : List V} {N : List Str} {np : Nat} (r : RelDs K ρ H ds vs) (hl : ds.length = np) (hn : np ≤ N.length) : REnv K ρ H (startE np N.length ds) (L2.start N vs) := by
  have e := r.length
  refine ⟨by simp [startE, L2.start]; omega, fun i d h => ?_⟩
  unfold startE at h
  by_cases hi : i < ds.length
  · rw [List.getElem?_append_left (by simpa using hi)] at h
    rw [List.getElem?_map] at h
    simp only [Option.map_eq_some_iff] at h
    obtain ⟨d', h1, h2⟩ := h
    cases h2
    obtain ⟨v, hv, rv⟩ := r.get h1
    refine ⟨v, ?_, rv⟩
    unfold L2.start
    rw [List.getElem?_append_left (by simp; omega), List.getElem?_map, hv] <;> rfl
  · rw [List.getElem?_append_right (by simpa using hi)] at h
    rw [List.getElem?_replicate] at h
    split at h <;> cases h
theorem body_then {K : PySem.W.Frag} {T : List (Addr × Str)} {ρ : List Addr} {H : Hp} {C : Ctl} {f : FnI} {ds : List D} {m : Mem} {Q : VK} {E : XK} (S : Sto K T ρ H m) (hl : ds.length = f.np)
    (h : Then K T ρ H (bodyF C f ds m) (fun d _ ρ' H' => ∀ v, RelD K ρ' H' d v → Q v H') (fun cc p _ ρ' H' => ∀ dd, RelP K ρ' H' p dd → E (.ref (He.ga K cc)) dd H')) :
    ThenO K T ρ H { nx := fun _ H' => Q .non H', rt := Q } (fun cls d _ H => E cls d H) (evalB C f.body (startE f.np f.nn ds) m) := by
  unfold bodyF at h
  rw [if_pos hl] at h
  cases e : evalB C f.body (startE f.np f.nn ds) m with
  | nx env m1 =>
    rw [e] at h
    exact fun ρ' H' σ' E' S' _ => gc_then (v := .non) S h E' S' .non
  | rt d m1 =>
    rw [e] at h
    exact fun ρ' H' v E' S' r => gc_then S h E' S' r
  | exn c p env m1 =>
    rw [e] at h
    exact fun ρ' H' σ' E' S' _ dd rp => h ρ' H' E' S' dd rp
  | bk env m1 => rw [e] at h; exact (show False from h).elim
  | ct env m1 => rw [e] at h; exact (show False from h).elim
  | stuck => rw [e] at h; exact (show False from h).elim
theorem lam_of {L : LawI} {n : Nat} {T : List (Addr × Str)} {K : PySem.W.Frag} {c : Ctx} {C : Ctl} {X : Cx} {d : DefI} {dV kV doc pm cdv ct oc : Value} {an od : Option Addr} {osl : Array (Option Value)}
    (hC : C.call2 = runF L.prog (n - 2)) (hX : X.env.code = cdv ∧ X.env.qual = d.name ++ ".<locals>.")
    (lk : K.lookup (He.ga K d.name) = some ⟨oc, od, .func (PySem.W.fnOf d.name d.name d.params d.body d.scope dV kV doc pm an cdv ct), osl⟩) (hcd : PySem.W.codeIn K cdv d.name = true)
    (hl : ((He.cT K (d.name, none)).2, (d.name ++ ".<locals>.") ++ "<lambda>") ∈ T ∧ ∀ p ∈ T, p.1 = (He.cT K (d.name, none)).2 → p.2 = (d.name ++ ".<locals>.") ++ "<lambda>") (TB : LamX.TabB X.base X.mg (He.cT K (d.name, none)).1 (He.cT K (d.name, none)).2) : LamOk c C L.prog n T X := by
  obtain ⟨c', ec⟩ := He.codeIn_ref hcd
  have lk' : K.lookup (He.fAd K (d.name, none)) = some ⟨oc, od, .func (PySem.W.fnOf d.name d.name d.params d.body d.scope dV kV doc pm an cdv ct), osl⟩ := lk
  have e2 : He.codeOf K (d.name, none) = c' := He.codeOf_eq lk' ec
  have e3 : (He.cT K (d.name, none)).1 = He.codeOf K (d.name, none) := rfl
  rw [e3, e2] at TB
  refine ⟨hC, c', _, by rw [hX.1, ec], TB, ?_, ?_⟩
  · rw [hX.2]; exact hl.1
  · rw [hX.2]; exact hl.2
theorem gen_of {T : List (Addr × Str)} {K : PySem.W.Frag} {X : Cx} {d : DefI} {dV kV doc pm cdv ct oc : Value} {an od : Option Addr} {osl : Array (Option Value)} (hX : X.env.code = cdv ∧ X.env.qual = d.name ++ ".<locals>.")
    (lk : K.lookup (He.ga K d.name) = some ⟨oc, od, .func (PySem.W.fnOf d.name d.name d.params d.body d.scope dV kV doc pm an cdv ct), osl⟩) (hcd : PySem.W.codeIn K cdv d.name = true)
    (hl : ((He.cT K (d.name, none)).2, (d.name ++ ".<locals>.") ++ "<genexpr>") ∈ T ∧ ∀ p ∈ T, p.1 = (He.cT K (d.name, none)).2 → p.2 = (d.name ++ ".<locals>.") ++ "<genexpr>") (TB : LamX.TabB X.base X.mg (He.cT K (d.name, none)).1 (He.cT K (d.name, none)).2) :
    ∃ cc PP, X.env.code = .ref cc ∧ LamX.TabB X.base X.mg cc PP ∧ (PP, X.env.qual ++ "<genexpr>") ∈ T ∧ ∀ p ∈ T, p.1 = PP → p.2 = X.env.qual ++ "<genexpr>" := by
  obtain ⟨c', ec⟩ := He.codeIn_ref hcd
  have lk' : K.lookup (He.fAd K (d.name, none)) = some ⟨oc, od, .func (PySem.W.fnOf d.name d.name d.params d.body d.scope dV kV doc pm an cdv ct), osl⟩ := lk
  have e2 : He.codeOf K (d.name, none) = c' := He.codeOf_eq lk' ec
  have e3 : (He.cT K (d.name, none)).1 = He.codeOf K (d.name, none) := rfl
  rw [e3, e2] at TB
  refine ⟨c', _, by rw [hX.1, ec], TB, ?_, ?_⟩
  · rw [hX.2]; exact hl.1
  · rw [hX.2]; exact hl.2
/-- the defs whose walk is told by hand -/
def HandOk (L : LawI) (T : List (Addr × Str)) (P : Program) (w : World) (K : PySem.W.Frag) (mg : Str → Option Value) (base : Heap) : Prop :=
  ∀ d ∈ L.defs, d.hand = true → ∀ ir, d.ir = some ir → ∀ (n : Nat) (cdv : Value) (A : Around) (outer : List Env) (s : Shared) (H : Hp) (E : XK),
    Good (L.ctx d) (L.prog.ctl (runF L.prog n) (runF L.prog (n - 2)) n) L.prog n T (cxOf (L2.CX P w) P w K mg base d.N d.name d.scope (He.ga K d.name) cdv A outer s H E) (fun cls d _ H => E cls d H) →
      OkB (cxOf (L2.CX P w) P w K mg base d.N d.name d.scope (He.ga K d.name) cdv A outer s H E) T (L.prog.ctl (runF L.prog n) (runF L.prog (n - 2)) n) (fun cls d _ H => E cls d H) d.body ir
theorem HandOk.no {L : LawI} {T : List (Addr × Str)} {P : Program} {w : World} {K : PySem.W.Frag} {mg : Str → Option Value} {base : Heap} (h : L.defs.all (fun d => !d.hand) = true) : HandOk L T P w K mg base := fun d hd hh => by
  have := List.all_eq_true.mp h d hd
  rw [hh] at this
  cases this
section
variable {L : LawI} {n0 : Nat} {T : List (Addr × Str)} {P : Program} {w : World} {K : PySem.W.Frag} {mg : Str → Option Value} {base : Heap}
theorem fn_one (Ck : Checked L n0) (F : Facts L T K mg) (Hh : HandOk L T P w K mg base) (TB : ∀ d ∈ L.defs, (d.lam = true ∨ d.gen = true) → LamX.TabB base mg (He.cT K (d.name, none)).1 (He.cT K (d.name, none)).2) (n : Nat)
    (ih : ∀ k, k < n → ∀ c : Ctx, c.fns = L.fns → FnsOk c L.prog k T P w K mg base) {i : Nat} {d : DefI} (hd : L.defs[i]? = some d) {fd : FuncData} (Fd : FunD K d.name d.name d.params d.body d.scope [] [] (He.ga K d.name) fd) :
    FnOk P w K mg base (L2.CX P w) n (He.ga K d.name) fd d.ps (spF K T L.prog n i) := by
  have hm := List.mem_of_getElem? hd
  cases n with
  | zero => exact ⟨fun vs H Q E h => spF_len hd h, fun A outer s H args us vs Q E hr e0 hb r ⟨ρ, m, ds, S, rr, q⟩ => (q.ne (runF_zero _ _ _ _)).elim⟩
  | succ n =>
  obtain ⟨oc, od, dV, kV, doc, pm, an, cdv, ct, osl, rfl, lk, hcd, hdv, hkv⟩ := Fd.ex
  refine fn_of lk hcd (Ck.sc d hm) (fun vs H Q E h => spF_len hd h) fun A outer s H vs Q E hr hsp => ?_
  have hl := spF_len hd hsp
  obtain ⟨ρ, m, ds, S, r, q⟩ := hsp
  have efi : L.prog.fns[i]? = some d.fi := by
    show (L.defs.map DefI.fi)[i]? = _
    rw [List.getElem?_map, hd] <;> rfl
  have hdl : ds.length = d.fi.np := by rw [r.length, hl] <;> rfl
  rw [runF_succ] at q
  unfold stepF at q
  rw [efi] at q
  have q2 := body_then S hdl q
  have hnp : d.ps.length ≤ d.N.length := by
    have := congrArg List.length (Ck.sc d hm).pre
    rw [List.length_take] at this
    omega
  cases hir : d.ir with
  | none =>
    exfalso
    have e : d.fi.body = [.brk] := by unfold DefI.fi; rw [hir] <;> rfl
    rw [e] at q2
    unfold evalB at q2
    simp only [evalS, Out.seq] at q2
    exact q2 ρ H _ (Ext.refl _ _) S (startE_rel (N := d.N) r hdl hnp)
  | some ir =>
    have e : d.fi.body = ir := by unfold DefI.fi; rw [hir] <;> rfl
    rw [e] at q2
    have hcomp : cB n0 (L.ctx d) d.body = some ir ∨ d.hand = true := by
      rcases Ck.comp d hm with z | z | z
      · rw [hir] at z; cases z
      · exact .inl (by rw [z, hir])
      · exact .inr z
    have GG : Good (L.ctx d) (L.prog.ctl (runF L.prog n) (runF L.prog (n - 2)) n) L.prog n T (cxOf (L2.CX P w) P w K mg base d.N d.name d.scope (He.ga K d.name) cdv A outer s H E) (fun cls d _ H => E cls d H) := {
      call := rfl
      lam := fun hlam => by
        have h9 : d.lam = true ∧ d.gen = false := by
          have : (d.lam && !d.gen) = true := hlam
          simpa using this
        exact lam_of rfl ⟨rfl, rfl⟩ lk hcd (F.lam d hm h9.1 h9.2) (TB d hm (.inl h9.1))
      gen := fun hg => gen_of ⟨rfl, rfl⟩ lk hcd (F.gen d hm hg) (TB d hm (.inr hg))
      two := fun i cl h => by
        unfold Prog.ctl at h
        simp only at h
        split at h
        · assumption
        · cases h
      calm := rfl
      nd := (Ck.sc d hm).nd
      hN := rfl
      sc := rfl
      room := hr
      tk := takes_of rfl rfl rfl rfl
      po := passes_of rfl
      fn := fun _ _ => rfl
      fnB := fun x hx => absurd hx (by unfold LawI.ctx; simp)
      fns := fun k hk => ih k (by omega) _ rfl
      glos := F.glos
      blt := F.blt
      told := fun i cl h => by
        unfold Prog.ctl at h
        simp only at h
        split at h
        · exact F.told _ rfl _ _ h
        · cases h
      exm := F.exm
      exs := fun x hx => by
        obtain ⟨h1, h2, h3, h4, h5⟩ := F.exs x hx
        exact ⟨h1, h2, h3, raises_own h4 h5⟩ }
    have okb : OkB (cxOf (L2.CX P w) P w K mg base d.N d.name d.scope (He.ga K d.name) cdv A outer s H E) T (L.prog.ctl (runF L.prog n) (runF L.prog (n - 2)) n) (fun cls d _ H => E cls d H) d.body ir := by
      rcases hcomp with z | z
      · exact (snd_SB n0).2 _ _ _ z _ _ _ _ _ _ GG rfl
      · exact Hh d hm z ir hir n cdv A outer s H E GG
    exact ⟨_, okb, ρ, m, _, S, startE_rel r hdl hnp, q2⟩
theorem fns_all (Ck : Checked L n0) (F : Facts L T K mg) (Hh : HandOk L T P w K mg base) (TB : ∀ d ∈ L.defs, (d.lam = true ∨ d.gen = true) → LamX.TabB base mg (He.cT K (d.name, none)).1 (He.cT K (d.name, none)).2) :
    ∀ (n : Nat) (c : Ctx), c.fns = L.fns → FnsOk c L.prog n T P w K mg base := by
  intro n
  induction n using Nat.strongRecOn with
  | _ n ih =>
  intro c hc
  refine ⟨fun i q hq => ?_, fun i q fi hq hf => ?_⟩
  · rw [hc] at hq
    unfold LawI.fns at hq
    rw [List.getElem?_map, Option.map_eq_some_iff] at hq
    obtain ⟨d, hd, rfl⟩ := hq
    have hm := List.mem_of_getElem? hd
    obtain ⟨fd, Fd⟩ := F.fund d hm
    exact ⟨He.ga K d.name, fd, F.glo d hm, Fd.kp, Fd.bindsN (Ck.bnd d hm), fn_one Ck F Hh TB n ih hd Fd⟩
  · rw [hc] at hq
    unfold LawI.fns at hq
    rw [List.getElem?_map, Option.map_eq_some_iff] at hq
    obtain ⟨d, hd, rfl⟩ := hq
    have efi : L.prog.fns[i]? = some d.fi := by
      show (L.defs.map DefI.fi)[i]? = _
      rw [List.getElem?_map, hd] <;> rfl
    rw [efi] at hf
    cases hf
    rfl
end
end Dat

/-! Dat17 -/
set_option linter.all false
set_option maxRecDepth 100000
set_option maxHeartbeats 4000000
/-! Dat17: what the head tells. -/
namespace Dat
open PySem PySem.Spec L2 PyProof.Rows
def LawI.lams (L : LawI) : List DefI := L.defs.filter fun d => d.lam || d.gen
def DefI.dd (d : DefI) : He.DefD := ⟨(d.name, none), d.name, d.name, d.params, d.body, d.scope, [], []⟩
def gloFa : Str × D → He.Fa
  | (x, .int i) => .int x i
  | (x, .str z) => .str x z
  | (x, _) => .exm x x false
def LawI.fa (L : LawI) : List He.Fa := bltNames.map He.Fa.free ++ (L.defs.map (fun d => He.Fa.glo d.name) ++ (L.exs.map He.Fa.exc ++ (L.exs.map He.Fa.glo ++ (L.subs.map (fun p => He.Fa.exm p.1.1 p.1.2 p.2) ++ L.glos.map gloFa))))
def LawI.fn (L : LawI) : List He.DefD := L.defs.map DefI.dd
def LawI.tf (L : LawI) : List He.Defn := L.lams.map fun d => (d.name, none)
def tabA (K : PySem.W.Frag) (d : DefI) : Addr := (He.cT K (d.name, none)).2
/-- the tables differ -/
def LawI.exB (L : LawI) (K : PySem.W.Frag) : Bool := L.lams.all fun d => L.lams.all fun d' => !(tabA K d == tabA K d') || (d.name == d'.name && d.gen == d'.gen)
/-- the name that its table's code objects bear -/
def DefI.tn (d : DefI) : Str := (d.name ++ ".<locals>.") ++ (if d.gen = true then "<genexpr>" else "<lambda>")
def LawI.T (L : LawI) (K : PySem.W.Frag) : List (Addr × Str) := L.lams.map fun d => (tabA K d, d.tn)
/-- the except clauses, as they stand -/
def hdC (sg : Scope) : List ExceptHandler → Option (List (Str × Str))
  | [] => some []
  | .ExceptHandler (some (.Name e _)) none [.Return (some (.Constant (.str r) _ _)) _] _ :: hs => if sg.names.lookup e = some .globalImplicit ∧ (e == ("__debug__" : Str)) = false then (hdC sg hs).map fun l => (e, r) :: l else none
  | _ => none
theorem hdC_ok {K : PySem.W.Frag} {mg : Str → Option Value} {sg : Scope} : ∀ {hs : List ExceptHandler} {cl : List (Str × Str)}, hdC sg hs = some cl → (∀ q ∈ cl, mg q.1 = some (.ref (He.ga K q.1))) → HdM K mg sg hs cl
  | [], cl, h, _ => by
    simp only [hdC, Option.some.injEq] at h
    subst h
    exact .nil
  | hd :: hs, cl, h, hm => by
    unfold hdC at h
    split at h
    · rename_i e; cases e
    · rename_i e
      cases e
      split at h
      · rename_i hc
        rw [Option.map_eq_some_iff] at h
        obtain ⟨l, hl, rfl⟩ := h
        exact .cons hc.1 hc.2 (hm _ List.mem_cons_self) (hdC_ok hl fun q hq => hm q (List.mem_cons_of_mem _ hq))
      · cases h
    · cases h
structure ToldI (d : DefI) (cl : List (Str × Str)) : Prop where
  ex : ∃ (a : Str) (h0 : ExceptHandler) (hs : List ExceptHandler) (p1 p2 p3 p8 : Pos), d.ps = [a] ∧ d.body = [.Try [.Return (some (.Call (.Name a p1) [] [] p2)) p3] (h0 :: hs) [] [] p8] ∧ d.N[0]? = some a ∧ d.scope.names.lookup a = some .local ∧ (a == ("__debug__" : Str)) = false ∧ (a == ("__classdict__" : Str)) = false ∧ hdC d.scope (h0 :: hs) = some cl
def toldC (d : DefI) (cl : List (Str × Str)) : Bool := match d.ps, d.body with
  | [a], [.Try [.Return (some (.Call (.Name a' _) [] [] _)) _] (h0 :: hs) [] [] _] => decide (a' = a ∧ d.N[0]? = some a ∧ d.scope.names.lookup a = some .local ∧ (a == ("__debug__" : Str)) = false ∧ (a == ("__classdict__" : Str)) = false ∧ hdC d.scope (h0 :: hs) = some cl)
  | _, _ => false
theorem toldC_ok {d : DefI} {cl : List (Str × Str)} (h : toldC d cl = true) : ToldI d cl := by
  unfold toldC at h
  split at h
  · rename_i h1 h2
    obtain ⟨rfl, h3, h4, h5, h6, h7⟩ := of_decide_eq_true h
    exact ⟨_, _, _, _, _, _, _, h1, h2, h3, h4, h5, h6, h7⟩
  · cases h
def LawI.toldB (L : LawI) : Bool := L.told.all fun p => (match L.defs[p.1]? with
  | some d => toldC d p.2
  | none => false) && p.2.all fun q => decide (q.1 ∈ L.exs)
def LawI.gloB (L : LawI) : Bool := L.glos.all fun p => match p.2 with
  | .int _ | .str _ => true
  | _ => false
theorem lookup_mem {α β : Type} [BEq α] [LawfulBEq α] {a : α} {b : β} : ∀ {l : List (α × β)}, l.lookup a = some b → (a, b) ∈ l
  | [], h => by cases h
  | (x, y) :: l, h => by
    rw [List.lookup_cons] at h
    split at h
    · rename_i e
      cases h
      rw [beq_iff_eq.mp e]
      exact List.mem_cons_self
    · exact List.mem_cons_of_mem _ (lookup_mem h)
section
variable {L : LawI} {n0 : Nat} {K : PySem.W.Frag} {mg : Str → Option Value} {h : Heap}
theorem exs_of (c : He.SaysD L.fa L.fn K) (X : K.In h) (G : h.Ns mainGlobals mg) : ∀ x ∈ L.exs, PySem.W.excIn K (He.ga K x) He.veBase "ValueError.__new__" = true ∧ mg x = some (.ref (He.ga K x)) ∧ PySem.W.keepIn K (.ref (He.ga K x)) = true ∧
    PySem.W.subIn K (.ref (He.ga K x)) (.type "BaseException") = some true ∧ PySem.W.typeIn K (.ref (He.ga K x)) = some (.type "type") := fun x hx => by
  have m1 : He.Fa.exc x ∈ L.fa := List.mem_append_right _ (List.mem_append_right _ (List.mem_append_left _ (List.mem_map_of_mem hx)))
  have m2 : He.Fa.glo x ∈ L.fa := List.mem_append_right _ (List.mem_append_right _ (List.mem_append_right _ (List.mem_append_left _ (List.mem_map_of_mem hx))))
  obtain ⟨h1, h2⟩ := He.ba (c.facts m1)
  obtain ⟨h3, h4⟩ := He.ba h2
  obtain ⟨h5, h6⟩ := He.ba h4
  exact ⟨h1, He.glo_ok X G (c.facts m2), h3, of_decide_eq_true h5, of_decide_eq_true h6⟩
theorem tab_of (ex : L.exB K = true) {d : DefI} (hd : d ∈ L.defs) (hl : (d.lam || d.gen) = true) : ((He.cT K (d.name, none)).2, d.tn) ∈ L.T K ∧ ∀ p ∈ L.T K, p.1 = (He.cT K (d.name, none)).2 → p.2 = d.tn := by
  have hm : d ∈ L.lams := List.mem_filter.mpr ⟨hd, hl⟩
  refine ⟨List.mem_map_of_mem (f := fun d : DefI => (tabA K d, d.tn)) hm, fun p hp e => ?_⟩
  obtain ⟨d', hd', rfl⟩ := List.mem_map.mp hp
  have h1 := List.all_eq_true.mp (List.all_eq_true.mp ex _ hd') _ hm
  have e' : tabA K d' = tabA K d := e
  rw [e'] at h1
  have h2 : d'.name = d.name ∧ d'.gen = d.gen := by simpa using h1
  show d'.tn = d.tn
  unfold DefI.tn
  rw [h2.1, h2.2]
theorem facts_of (c : He.SaysD L.fa L.fn K) (X : K.In h) (G : h.Ns mainGlobals mg) (ex : L.exB K = true) (Ck : Checked L n0) (ht : L.toldB = true) (hg : L.gloB = true) : Facts L (L.T K) K mg where
  fund := fun d hd => c.defs (d := d.dd) (List.mem_map_of_mem hd)
  glo := fun d hd => He.glo_ok X G (c.facts (f := .glo d.name) (List.mem_append_right _ (List.mem_append_left _ (List.mem_map_of_mem (f := fun d => He.Fa.glo d.name) hd))))
  glos := fun x d hx => by
    have hm := lookup_mem hx
    have h1 := List.all_eq_true.mp hg _ hm
    have m1 : gloFa (x, d) ∈ L.fa := List.mem_append_right _ (List.mem_append_right _ (List.mem_append_right _ (List.mem_append_right _ (List.mem_append_right _ (List.mem_map_of_mem hm)))))
    cases d with
    | int i =>
      obtain ⟨t, e⟩ := He.int_ok X G (c.facts m1)
      exact ⟨_, .int i, e, ⟨t, rfl⟩, fun _ _ => .int i⟩
    | str z =>
      obtain ⟨t, e⟩ := He.str_ok X G (c.facts m1)
      exact ⟨_, .str z, e, ⟨t, rfl⟩, fun _ _ => .str z⟩
    | _ => cases h1
  blt := fun x hx => He.free_ok X G (c.facts (f := .free x) (List.mem_append_left _ (List.mem_map_of_mem hx)))
  exm := fun a b v hv => of_decide_eq_true (c.facts (f := .exm a b v) (List.mem_append_right _ (List.mem_append_right _ (List.mem_append_right _ (List.mem_append_right _ (List.mem_append_left _ (List.mem_map_of_mem (f := fun p : (Str × Str) × Bool => He.Fa.exm p.1.1 p.1.2 p.2) (lookup_mem hv))))))))
  exs := exs_of c X G
  lam := fun d hd hl hg => by
    have e : d.tn = (d.name ++ ".<locals>.") ++ "<lambda>" := by unfold DefI.tn; rw [hg]; rfl
    rw [← e]
    exact tab_of ex hd (by rw [hl]; rfl)
  gen := fun d hd hg => by
    have e : d.tn = (d.name ++ ".<locals>.") ++ "<genexpr>" := by unfold DefI.tn; rw [hg]; rfl
    rw [← e]
    exact tab_of ex hd (by rw [hg, Bool.or_true])
  told := fun cx hc i cl hi => by
    have h1 := List.all_eq_true.mp ht _ (lookup_mem hi)
    obtain ⟨h2, h3⟩ := He.ba h1
    simp only at h2 h3
    split at h2
    case h_2 => cases h2
    rename_i d hd
    obtain ⟨a, h0, hs, p1, p2, p3, p8, k1, k2, k3, k4, k5, k6, k7⟩ := (toldC_ok h2).ex
    have hm := List.mem_of_getElem? hd
    obtain ⟨fd, Fd⟩ := c.defs (d := d.dd) (List.mem_map_of_mem hm)
    have Fd : FunD K d.name d.name d.params d.body d.scope [] [] (He.ga K d.name) fd := Fd
    have B := Fd.bindsN (Ck.bnd d hm)
    obtain ⟨oc, od, dV, kV, doc, pm, an, cdv, ct, osl, rfl, lk, hcd, hdv, hkv⟩ := Fd.ex
    have sc := Ck.sc d hm
    rw [k1] at B sc
    refine ⟨d.name, a, He.ga K d.name, d.params, d.body, d.scope, d.N, dV, kV, doc, pm, cdv, ct, oc, od, an, osl, h0, hs, p1, p2, p3, p8, ?_, He.glo_ok X G (c.facts (f := .glo d.name) (List.mem_append_right _ (List.mem_append_left _ (List.mem_map_of_mem (f := fun d => He.Fa.glo d.name) hm)))), Fd.kp, lk, hcd, B, sc, k3, .inl k4, k5, k6, k2, ?_⟩
    · rw [hc]
      unfold LawI.fns
      rw [List.getElem?_map, hd, ← k1] <;> rfl
    · exact hdC_ok k7 fun q hq => (exs_of c X G q.1 (of_decide_eq_true (List.all_eq_true.mp h3 q hq))).2.1
end
end Dat

/-! Dat18 -/
set_option linter.all false
set_option maxRecDepth 100000
set_option maxHeartbeats 4000000
/-! Dat18: a law by its small program. -/
namespace Dat
open PySem PySem.Spec L2 PyProof.Rows
/-- what is left: the small program answers True -/
def Plain (L : LawI) (k n i : Nat) : Prop := ∀ ns : List Int, ns.length ≤ n → (∀ z ∈ ns, Builtin.Int.intBits z ≤ 1048576) →
  (∃ m', runF L.prog k i [.fro (ns.map .int)] [] = .ok (.bl true) m') ∧ (∃ m', runF L.prog k i [.ref 0] [.lst (ns.map .int)] = .ok (.bl true) m')
theorem relInts {K : PySem.W.Frag} {ρ : List Addr} {H : Hp} : ∀ ns : List Int, RelDs K ρ H (ns.map D.int) (ns.map V.int)
  | [] => .nil
  | n :: ns => .cons (.int n) (relInts ns)
theorem law_at {l : PySem.W.OpenLaw} {L : LawI} {n0 k n i : Nat} {x : Str} {d : DefI} {w : World} {K : PySem.W.Frag} {mg : Str → Option Value} {fa : Addr} {h : Heap} (Ck : Checked L n0) (ht : L.toldB = true) (hg : L.gloB = true) (hno : L.defs.all (fun d => !d.hand) = true)
    (hd : L.defs[i]? = some d) (hp : d.ps = [x]) (hf : mg d.name = some (.ref fa)) (KX : K.In h) (G : h.Ns mainGlobals mg) (c : He.SaysX L.fa L.fn [] L.tf L.exB w h K) (pl : Plain L k n i) :
    LamX.LawAtS l w K (L2.CX l.prog w) k n x mg fa h := by
  have F := facts_of c.t.d KX G c.more Ck ht hg
  have hm := List.mem_of_getElem? hd
  obtain ⟨fd, Fd⟩ := F.fund d hm
  have e := hf.symm.trans (F.glo d hm)
  have efa : fa = He.ga K d.name := by cases e; rfl
  subst efa
  have bA := Fd.bindsA (Ck.bnd d hm)
  rw [hp] at bA
  refine ⟨fd, L.lams.map (fun d => He.cT K (d.name, none)), spF K (L.T K) L.prog k i, fun p hp => ?_, fun p hp => ?_, fun p hp => ?_, fun s u => bA s [u] rfl, fun H a ns hl hb hT hS => ?_, fun base hK hG TB => ?_⟩
  · obtain ⟨d', hd', rfl⟩ := List.mem_map.mp hp
    exact c.empty (d'.name, none) (List.mem_map_of_mem (f := fun d : DefI => ((d.name, none) : He.Defn)) hd')
  · obtain ⟨d', hd', rfl⟩ := List.mem_map.mp hp
    exact c.out (d'.name, none) (List.mem_map_of_mem (f := fun d : DefI => ((d.name, none) : He.Defn)) hd')
  · obtain ⟨d', hd', rfl⟩ := List.mem_map.mp hp
    exact PySem.W.codeHd_of_K KX (c.hd (d'.name, none) (List.mem_map_of_mem (f := fun d : DefI => ((d.name, none) : He.Defn)) hd'))
  · have tabs : LamX.Tabs (L.T K) H := fun p hp => by
      obtain ⟨d', hd', rfl⟩ := List.mem_map.mp hp
      refine ⟨#[], hT (He.cT K (d'.name, none)) (List.mem_map_of_mem (f := fun d : DefI => He.cT K (d.name, none)) hd'), ?_, fun pos cv z => ?_⟩
      · simp [TriplesOk]
      · simp [codeAmong] at z
    obtain ⟨⟨m1, e1⟩, ⟨m2, e2⟩⟩ := pl ns hl hb
    have fin : ∀ {ρ : List Addr} {m m' : Mem} {d0 : D}, runF L.prog k i [d0] m = .ok (.bl true) m' → Sto K (L.T K) ρ H m → RelD K ρ H d0 (.ref a) → spF K (L.T K) L.prog k i [V.ref a] H (fun v _ => v = V.bl true) (fun _ _ _ => False) := fun {ρ m m' d0} e S r => by
      refine ⟨ρ, m, [d0], S, .cons r .nil, ?_⟩
      rw [e]
      exact fun ρ' H' _ _ v r => by cases r; rfl
    have S0 : Sto K (L.T K) [] H [] := ⟨rfl, List.nodup_nil, fun i c h => by simp at h, tabs⟩
    rcases hS with (hS | ⟨o, hS⟩) | hS
    · refine fin e2 (ρ := [a]) ⟨rfl, by simp, fun i c h => ?_, tabs⟩ (.ref rfl)
      cases i with
      | zero =>
        cases h
        exact ⟨a, rfl, _, hS, relInts ns⟩
      | succ i => simp at h
    · exact fin e1 S0 (.fro (.inl ⟨o, hS⟩) (relInts ns))
    · exact fin e1 S0 (.fro (.inr hS) (relInts ns))
  · have z := fn_one (w := w) (P := l.prog) (base := base) Ck F (HandOk.no hno) (fun d' hd' hl => TB (He.cT K (d'.name, none)) (List.mem_map_of_mem (f := fun d : DefI => He.cT K (d.name, none)) (List.mem_filter.mpr ⟨hd', by rcases hl with z | z <;> simp [z]⟩))) k
      (fun k' _ => fns_all Ck F (HandOk.no hno) (fun d' hd' hl => TB (He.cT K (d'.name, none)) (List.mem_map_of_mem (f := fun d : DefI => He.cT K (d.name, none)) (List.mem_filter.mpr ⟨hd', by rcases hl with z | z <;> simp [z]⟩))) k') hd Fd
    rw [hp] at z
    exact z
end Dat

/-! Dat19 -/
set_option linter.all false
set_option maxRecDepth 100000
set_option maxHeartbeats 4000000
/-! Dat19: reading the small language. -/
namespace Dat
open PySem L2
theorem while_more {c : EnvD → Mem → Res D} {b : EnvD → Mem → Out} : ∀ {k : Nat} {env : EnvD} {m : Mem}, whileN c b k env m ≠ .stuck → ∀ j, k ≤ j → whileN c b j env m = whileN c b k env m
  | 0, env, m, h, _, _ => absurd rfl h
  | k + 1, env, m, h, 0, hj => absurd hj (by omega)
  | k + 1, env, m, h, j + 1, hj => by
    have hj' : k ≤ j := by omega
    unfold whileN tstO at h ⊢
    cases hc : (c env m).gc m.length with
    | stuck => rfl
    | exn _ _ _ => rfl
    | ok x m1 =>
      rw [hc] at h
      simp only [Res.out] at h ⊢
      cases x with
      | bl t =>
        cases t with
        | false => rfl
        | true =>
          simp only [if_true] at h ⊢
          cases hb : b env m1 with
          | nx e m2 => rw [hb] at h; exact while_more h j hj'
          | ct e m2 => rw [hb] at h; exact while_more h j hj'
          | _ => rfl
      | _ => rfl
/-- a loop's end: k turns are enough -/
theorem while_of {c : EnvD → Mem → Res D} {b : EnvD → Mem → Out} {k K : Nat} {env : EnvD} {m : Mem} {o : Out} (h : whileN c b k env m = o) (n : o ≠ .stuck) (hk : k ≤ K) : whileN c b K env m = o := by
  rw [while_more (by rw [h]; exact n) K hk, h]
theorem while_succ {c : EnvD → Mem → Res D} {b : EnvD → Mem → Out} {k : Nat} {env : EnvD} {m : Mem} : whileN c b (k + 1) env m = tstO env (c env m) m.length fun t m1 => if t = true then (match b env m1 with
      | .nx e m2 => whileN c b k e m2
      | .ct e m2 => whileN c b k e m2
      | .bk e m2 => .nx e m2
      | o => o) else .nx env m1 := by rw [whileN] <;> rfl
theorem gcM_same {a : D} {m : Mem} : gcM m.length a m = m := by
  unfold gcM
  split <;> simp
theorem gc_same {a : D} {m : Mem} : (Res.ok a m).gc m.length = .ok a m := by
  unfold Res.gc
  simp only [gcM_same]
theorem gc_exn {c : Str} {p : Option D} {m : Mem} {n : Nat} : (Res.exn c p m : Res D).gc n = .exn c p m := Eq.trans rfl rfl
/-! ### head first -/
theorem seq_congr {o o' : Out} {f : EnvD → Mem → Out} (h : o = o') : o.seq f = o'.seq f := by rw [h]
theorem bind_congr {α β : Type} {r r' : Res α} {f : α → Mem → Res β} (h : r = r') : r.bind f = r'.bind f := by rw [h]
theorem out_congr {α : Type} {env : EnvD} {r r' : Res α} {f : α → Mem → Out} (h : r = r') : r.out env f = r'.out env f := by rw [h]
theorem tst_congr {env : EnvD} {r r' : Res D} {n : Nat} {f : Bool → Mem → Out} (h : r = r') : tstO env r n f = tstO env r' n f := by rw [h]
theorem asB_congr {α : Type} {x x' : D} {f : Bool → Res α} (h : x = x') : asB x f = asB x' f := by rw [h]
def selB (C : Ctl) (t : Bool) (a b : List IS) (env : EnvD) (m : Mem) : Out := if t = true then evalB C a env m else evalB C b env m
def selE (C : Ctl) (t : Bool) (a b : IE) (env : EnvD) (m : Mem) : Res D := if t = true then evalE a C env m else evalE b C env m
def rdV (o : Option (Option D)) (m : Mem) : Res D := match o with
  | some (some d) => .ok d m
  | _ => .stuck
def stT (m : Mem) (o : Option EnvD) : Out := match o with
  | some e => .nx e m
  | none => .stuck
section
variable {C : Ctl} {env : EnvD} {m m1 : Mem} {t : Bool}
theorem seq_nx {f : EnvD → Mem → Out} : (Out.nx env m).seq f = f env m := Eq.trans rfl rfl
theorem seq_rt {d : D} {f : EnvD → Mem → Out} : (Out.rt d m).seq f = .rt d m := Eq.trans rfl rfl
theorem seq_exn {c : Str} {p : Option D} {f : EnvD → Mem → Out} : (Out.exn c p env m).seq f = .exn c p env m := Eq.trans rfl rfl
theorem seq_bk {f : EnvD → Mem → Out} : (Out.bk env m).seq f = .bk env m := Eq.trans rfl rfl
theorem seq_ct {f : EnvD → Mem → Out} : (Out.ct env m).seq f = .ct env m := Eq.trans rfl rfl
theorem bind_ok {α β : Type} {a : α} {f : α → Mem → Res β} : (Res.ok a m).bind f = f a m := Eq.trans rfl rfl
theorem bind_exn {α β : Type} {c : Str} {p : Option D} {f : α → Mem → Res β} : (Res.exn c p m : Res α).bind f = .exn c p m := Eq.trans rfl rfl
theorem out_ok {α : Type} {a : α} {f : α → Mem → Out} : (Res.ok a m).out env f = f a m := Eq.trans rfl rfl
theorem out_exn {α : Type} {c : Str} {p : Option D} {f : α → Mem → Out} : (Res.exn c p m : Res α).out env f = .exn c p env m := Eq.trans rfl rfl
theorem tst_ok {b : Bool} {n : Nat} {f : Bool → Mem → Out} : tstO env (.ok (.bl b) m) n f = f b (gcM n (.bl b) m) := Eq.trans rfl rfl
theorem tst_exn {c : Str} {p : Option D} {n : Nat} {f : Bool → Mem → Out} : tstO env (.exn c p m) n f = .exn c p env m := Eq.trans rfl rfl
theorem gc_ok_ {a : D} {n : Nat} : (Res.ok a m).gc n = .ok a (gcM n a m) := Eq.trans rfl rfl
theorem asB_bl {α : Type} {f : Bool → Res α} : asB (.bl t) f = f t := Eq.trans rfl rfl
theorem selB_t {a b : List IS} : selB C true a b env m = evalB C a env m := Eq.trans rfl rfl
theorem selB_f {a b : List IS} : selB C false a b env m = evalB C b env m := Eq.trans rfl rfl
theorem selE_t {a b : IE} : selE C true a b env m = evalE a C env m := Eq.trans rfl rfl
theorem selE_f {a b : IE} : selE C false a b env m = evalE b C env m := Eq.trans rfl rfl
theorem rdV_some {d : D} : rdV (some (some d)) m = .ok d m := Eq.trans rfl rfl
theorem stT_some : stT m (some env) = .nx env m := Eq.trans rfl rfl
theorem e_var {i : Nat} : evalE (.var i) C env m = rdV env[i]? m := by rw [evalE] <;> rfl
theorem e_con {d : D} : evalE (.con d) C env m = .ok d m := by rw [evalE]
theorem e_glo {x : Str} {d : D} : evalE (.glo x d) C env m = .ok d m := by rw [evalE]
theorem e_nop : evalE .nop C env m = .ok .non m := by rw [evalE]
theorem e_bin {op : Operator} {a b : IE} : evalE (.bin op a b) C env m = (evalE a C env m).bind fun x m1 => (evalE b C env m1).bind fun y m2 => binD op x y m2 := by rw [evalE]
theorem e_neg {a : IE} : evalE (.neg a) C env m = (evalE a C env m).bind fun x m1 => negD x m1 := by rw [evalE]
theorem e_not {a : IE} : evalE (.notE a) C env m = (evalE a C env m).bind fun x m1 => asB x fun b => .ok (.bl (!b)) m1 := by rw [evalE]
theorem e_cmp {op : CmpOp} {a b : IE} : evalE (.cmp op a b) C env m = (evalE a C env m).bind fun x m1 => (evalE b C env m1).bind fun y m2 => cmpD op x y m2 := by rw [evalE]
theorem e_cmp2 {o1 o2 : CmpOp} {a b c : IE} : evalE (.cmp2 o1 o2 a b c) C env m = (evalE a C env m).bind fun x m1 => (evalE b C env m1).bind fun y m2 => (cmpD o1 x y m2).bind fun r m3 => asB r fun t => if t = true then (evalE c C env m3).bind fun z m4 => cmpD o2 y z m4 else .ok (.bl false) m3 := by rw [evalE]
theorem e_and {a b : IE} : evalE (.andE a b) C env m = (evalE a C env m).bind fun x m1 => asB x fun t => selE C t b (.con (.bl false)) env m1 := by
  rw [evalE]
  congr 1
theorem e_or {a b : IE} : evalE (.orE a b) C env m = (evalE a C env m).bind fun x m1 => asB x fun t => selE C t (.con (.bl true)) b env m1 := by
  rw [evalE]
  congr 1
theorem e_if {c a b : IE} : evalE (.ifE c a b) C env m = (evalE c C env m).bind fun x m1 => asB x fun t => selE C t a b env m1 := by rw [evalE] <;> rfl
theorem e_idx {a b : IE} : evalE (.idx a b) C env m = (evalE a C env m).bind fun x m1 => (evalE b C env m1).bind fun y m2 => idxD x y m2 := by rw [evalE]
theorem e_tup {l : List IE} : evalE (.tup l) C env m = (evalEs l C env m).bind fun ds m1 => if ds.length ≤ sizeLine then .ok (.tup ds) m1 else .stuck := by rw [evalE]
theorem e_lst {l : List IE} : evalE (.lst l) C env m = (evalEs l C env m).bind fun ds m1 => if ds.length ≤ sizeLine then .ok (.ref m1.length) (m1 ++ [.lst ds]) else .stuck := by rw [evalE]
theorem e_call {f : Nat} {l : List IE} : evalE (.call f l) C env m = (evalEs l C env m).bind fun ds m1 => C.call f ds m1 := by rw [evalE]
theorem e_blt {b : Blt} {l : List IE} : evalE (.blt b l) C env m = (evalEs l C env m).bind fun ds m1 => bltD b ds m1 := by rw [evalE]
theorem e_mth {k : Mth} {o : IE} {l : List IE} : evalE (.mth k o l) C env m = (evalE o C env m).bind fun x m1 => if isL m1 x = true then (evalEs l C env m1).bind fun ds m2 => mthD k x ds m2 else .stuck := by rw [evalE]
theorem es_nil : evalEs [] C env m = .ok [] m := by rw [evalEs]
theorem es_cons {e : IE} {es : List IE} : evalEs (e :: es) C env m = (evalE e C env m).bind fun d m1 => (evalEs es C env m1).bind fun ds m2 => .ok (d :: ds) m2 := by rw [evalEs]
theorem b_nil : evalB C [] env m = .nx env m := by rw [evalB]
theorem b_cons {s : IS} {r : List IS} : evalB C (s :: r) env m = (evalS C s env m).seq fun e m1 => evalB C r e m1 := by rw [evalB]
theorem s_asg {t : Tg} {e : IE} : evalS C (.asg t e) env m = ((evalE e C env m).gc m.length).out env fun x m1 => stT m1 (asgT m1 t x env) := by rw [evalS] <;> rfl
theorem s_expr {e : IE} : evalS C (.expr e) env m = ((evalE e C env m).bind fun _ m1 => (Res.ok .non m1).gc m.length).out env fun _ m1 => .nx env m1 := by rw [evalS]
theorem s_if {c : IE} {a b : List IS} : evalS C (.ifS c a b) env m = tstO env (evalE c C env m) m.length fun t m1 => selB C t a b env m1 := by rw [evalS] <;> rfl
theorem s_whl {c : IE} {b : List IS} : evalS C (.whl c b) env m = whileN (fun e m1 => evalE c C e m1) (fun e m1 => evalB C b e m1) C.turns env m := by rw [evalS]
theorem s_for {t : Tg} {it : II} {b : List IS} : evalS C (.forS t it b) env m = (evalI it C env m).out env fun I m1 => forL I.2 t (fun e m2 => evalB C b e m2) I.1 env m1 := by rw [evalS]
theorem s_ret {e : IE} : evalS C (.ret e) env m = (evalE e C env m).out env fun d m1 => .rt d m1 := by rw [evalS]
theorem s_rais {c : Str} : evalS C (.rais c) env m = .exn c none env m := by rw [evalS]
end
/-! the same, with what goes on held fast -/
structure Fx {T : Type} (f : T) : Type where
def Res.bindT {α β : Type} (r : Res α) (f : α → Mem → Res β) (_ : Fx f) : Res β := r.bind f
def Out.seqT (o : Out) (f : EnvD → Mem → Out) (_ : Fx f) : Out := o.seq f
def Res.outT {α : Type} (env : EnvD) (r : Res α) (f : α → Mem → Out) (_ : Fx f) : Out := r.out env f
def tstT (env : EnvD) (r : Res D) (n : Nat) (f : Bool → Mem → Out) (_ : Fx f) : Out := tstO env r n f
def asBT {α : Type} (x : D) (f : Bool → Res α) (_ : Fx f) : Res α := asB x f
section
variable {C : Ctl} {env : EnvD} {m m1 : Mem} {t : Bool}
theorem seqT_nx {f : EnvD → Mem → Out} {h : Fx f} : (Out.nx env m).seqT f h = f env m := seq_nx
theorem seqT_rt {d : D} {f : EnvD → Mem → Out} {h : Fx f} : (Out.rt d m).seqT f h = .rt d m := seq_rt
theorem seqT_exn {c : Str} {p : Option D} {f : EnvD → Mem → Out} {h : Fx f} : (Out.exn c p env m).seqT f h = .exn c p env m := seq_exn
theorem seqT_bk {f : EnvD → Mem → Out} {h : Fx f} : (Out.bk env m).seqT f h = .bk env m := seq_bk
theorem seqT_ct {f : EnvD → Mem → Out} {h : Fx f} : (Out.ct env m).seqT f h = .ct env m := seq_ct
theorem bindT_ok {α β : Type} {a : α} {f : α → Mem → Res β} {h : Fx f} : (Res.ok a m).bindT f h = f a m := bind_ok
theorem bindT_exn {α β : Type} {c : Str} {p : Option D} {f : α → Mem → Res β} {h : Fx f} : (Res.exn c p m : Res α).bindT f h = .exn c p m := bind_exn
theorem outT_ok {α : Type} {a : α} {f : α → Mem → Out} {h : Fx f} : (Res.ok a m).outT env f h = f a m := out_ok
theorem outT_exn {α : Type} {c : Str} {p : Option D} {f : α → Mem → Out} {h : Fx f} : (Res.exn c p m : Res α).outT env f h = .exn c p env m := out_exn
theorem tstT_ok {b : Bool} {n : Nat} {f : Bool → Mem → Out} {h : Fx f} : tstT env (.ok (.bl b) m) n f h = f b (gcM n (.bl b) m) := tst_ok
theorem tstT_exn {c : Str} {p : Option D} {n : Nat} {f : Bool → Mem → Out} {h : Fx f} : tstT env (.exn c p m) n f h = .exn c p env m := tst_exn
theorem asBT_bl {α : Type} {f : Bool → Res α} {h : Fx f} : asBT (.bl t) f h = f t := asB_bl
theorem t_bin {op : Operator} {a b : IE} : evalE (.bin op a b) C env m = (evalE a C env m).bindT (fun x m1 => (evalE b C env m1).bindT (fun y m2 => binD op x y m2) ⟨⟩) ⟨⟩ := e_bin
theorem t_neg {a : IE} : evalE (.neg a) C env m = (evalE a C env m).bindT (fun x m1 => negD x m1) ⟨⟩ := e_neg
theorem t_not {a : IE} : evalE (.notE a) C env m = (evalE a C env m).bindT (fun x m1 => asBT x (fun b => .ok (.bl (!b)) m1) ⟨⟩) ⟨⟩ := e_not
theorem t_cmp {op : CmpOp} {a b : IE} : evalE (.cmp op a b) C env m = (evalE a C env m).bindT (fun x m1 => (evalE b C env m1).bindT (fun y m2 => cmpD op x y m2) ⟨⟩) ⟨⟩ := e_cmp
def cmp2T (C : Ctl) (env : EnvD) (t : Bool) (o2 : CmpOp) (y : D) (c : IE) (m3 : Mem) : Res D := if t = true then (evalE c C env m3).bindT (fun z m4 => cmpD o2 y z m4) ⟨⟩ else .ok (.bl false) m3
theorem cmp2T_t {o2 : CmpOp} {y : D} {c : IE} : cmp2T C env true o2 y c m = (evalE c C env m).bindT (fun z m4 => cmpD o2 y z m4) ⟨⟩ := Eq.trans rfl rfl
theorem cmp2T_f {o2 : CmpOp} {y : D} {c : IE} : cmp2T C env false o2 y c m = .ok (.bl false) m := Eq.trans rfl rfl
theorem t_cmp2 {o1 o2 : CmpOp} {a b c : IE} : evalE (.cmp2 o1 o2 a b c) C env m = (evalE a C env m).bindT (fun x m1 => (evalE b C env m1).bindT (fun y m2 => (cmpD o1 x y m2).bindT (fun r m3 => asBT r (fun t => cmp2T C env t o2 y c m3) ⟨⟩) ⟨⟩) ⟨⟩) ⟨⟩ := e_cmp2
theorem t_and {a b : IE} : evalE (.andE a b) C env m = (evalE a C env m).bindT (fun x m1 => asBT x (fun t => selE C t b (.con (.bl false)) env m1) ⟨⟩) ⟨⟩ := e_and
theorem t_or {a b : IE} : evalE (.orE a b) C env m = (evalE a C env m).bindT (fun x m1 => asBT x (fun t => selE C t (.con (.bl true)) b env m1) ⟨⟩) ⟨⟩ := e_or
theorem t_if {c a b : IE} : evalE (.ifE c a b) C env m = (evalE c C env m).bindT (fun x m1 => asBT x (fun t => selE C t a b env m1) ⟨⟩) ⟨⟩ := e_if
theorem t_idx {a b : IE} : evalE (.idx a b) C env m = (evalE a C env m).bindT (fun x m1 => (evalE b C env m1).bindT (fun y m2 => idxD x y m2) ⟨⟩) ⟨⟩ := e_idx
theorem t_tup {l : List IE} : evalE (.tup l) C env m = (evalEs l C env m).bindT (fun ds m1 => if ds.length ≤ sizeLine then .ok (.tup ds) m1 else .stuck) ⟨⟩ := e_tup
theorem t_lst {l : List IE} : evalE (.lst l) C env m = (evalEs l C env m).bindT (fun ds m1 => if ds.length ≤ sizeLine then .ok (.ref m1.length) (m1 ++ [.lst ds]) else .stuck) ⟨⟩ := e_lst
theorem t_call {f : Nat} {l : List IE} : evalE (.call f l) C env m = (evalEs l C env m).bindT (fun ds m1 => C.call f ds m1) ⟨⟩ := e_call
theorem t_blt {b : Blt} {l : List IE} : evalE (.blt b l) C env m = (evalEs l C env m).bindT (fun ds m1 => bltD b ds m1) ⟨⟩ := e_blt
def mthT (C : Ctl) (env : EnvD) (t : Bool) (k : Mth) (x : D) (l : List IE) (m1 : Mem) : Res D := if t = true then (evalEs l C env m1).bindT (fun ds m2 => mthD k x ds m2) ⟨⟩ else .stuck
theorem mthT_t {k : Mth} {x : D} {l : List IE} : mthT C env true k x l m1 = (evalEs l C env m1).bindT (fun ds m2 => mthD k x ds m2) ⟨⟩ := Eq.trans rfl rfl
theorem t_mth {k : Mth} {o : IE} {l : List IE} : evalE (.mth k o l) C env m = (evalE o C env m).bindT (fun x m1 => mthT C env (isL m1 x) k x l m1) ⟨⟩ := e_mth
theorem ts_cons {e : IE} {es : List IE} : evalEs (e :: es) C env m = (evalE e C env m).bindT (fun d m1 => (evalEs es C env m1).bindT (fun ds m2 => .ok (d :: ds) m2) ⟨⟩) ⟨⟩ := es_cons
theorem tb_cons {s : IS} {r : List IS} : evalB C (s :: r) env m = (evalS C s env m).seqT (fun e m1 => evalB C r e m1) ⟨⟩ := b_cons
theorem ts_asg {t : Tg} {e : IE} : evalS C (.asg t e) env m = ((evalE e C env m).gc m.length).outT env (fun x m1 => stT m1 (asgT m1 t x env)) ⟨⟩ := s_asg
theorem ts_expr {e : IE} : evalS C (.expr e) env m = ((evalE e C env m).bindT (fun _ m1 => (Res.ok .non m1).gc m.length) ⟨⟩).outT env (fun _ m1 => .nx env m1) ⟨⟩ := s_expr
theorem ts_if {c : IE} {a b : List IS} : evalS C (.ifS c a b) env m = tstT env (evalE c C env m) m.length (fun t m1 => selB C t a b env m1) ⟨⟩ := s_if
theorem ts_ret {e : IE} : evalS C (.ret e) env m = (evalE e C env m).outT env (fun d m1 => .rt d m1) ⟨⟩ := s_ret
end
theorem c_eqI {i j : Int} {m : Mem} : cmpD .Eq (.int i) (.int j) m = .ok (.bl (decide (i = j))) m := by
  have e : eqD m (.int i) (.int j) = some (decide (i = j)) := by
    have h : SeqAt.shaped (.int i) = true ∧ SeqAt.shaped (.int j) = true := ⟨rfl, rfl⟩
    show (if SeqAt.shaped (.int i) = true ∧ SeqAt.shaped (.int j) = true then some (PyData.eqv (.int i) (.int j)) else none) = _
    rw [if_pos h]
    simp [PyData.eqv, BEq.beq]
  simp only [cmpD, e, liftO, Option.map_some]
theorem c_neI {i j : Int} {m : Mem} : cmpD .NotEq (.int i) (.int j) m = .ok (.bl (!decide (i = j))) m := by
  have e : eqD m (.int i) (.int j) = some (decide (i = j)) := by
    have h : SeqAt.shaped (.int i) = true ∧ SeqAt.shaped (.int j) = true := ⟨rfl, rfl⟩
    show (if SeqAt.shaped (.int i) = true ∧ SeqAt.shaped (.int j) = true then some (PyData.eqv (.int i) (.int j)) else none) = _
    rw [if_pos h]
    simp [PyData.eqv, BEq.beq]
  simp only [cmpD, e, liftO, Option.map_some]
theorem c_ltI {i j : Int} {m : Mem} : cmpD .Lt (.int i) (.int j) m = .ok (.bl (decide (i < j))) m := Eq.trans rfl rfl
theorem c_leI {i j : Int} {m : Mem} : cmpD .LtE (.int i) (.int j) m = .ok (.bl (decide (i ≤ j))) m := Eq.trans rfl rfl
theorem c_gtI {i j : Int} {m : Mem} : cmpD .Gt (.int i) (.int j) m = .ok (.bl (decide (j < i))) m := Eq.trans rfl rfl
theorem c_geI {i j : Int} {m : Mem} : cmpD .GtE (.int i) (.int j) m = .ok (.bl (decide (j ≤ i))) m := Eq.trans rfl rfl
theorem o_addI {i j : Int} {m : Mem} : binD .Add (.int i) (.int j) m = .ok (.int (i + j)) m := Eq.trans rfl rfl
theorem o_subI {i j : Int} {m : Mem} : binD .Sub (.int i) (.int j) m = .ok (.int (i - j)) m := Eq.trans rfl rfl
theorem o_mulI {i j : Int} {m : Mem} (h : MulG i j) : binD .Mult (.int i) (.int j) m = .ok (.int (i * j)) m := if_pos h
theorem o_divI {i j : Int} {m : Mem} (h : DivG i j) : binD .FloorDiv (.int i) (.int j) m = .ok (.int (i.fdiv j)) m := if_pos h
theorem o_modI {i j : Int} {m : Mem} (h : j ≠ 0) : binD .Mod (.int i) (.int j) m = .ok (.int (i.fmod j)) m := if_pos h
theorem n_I {i : Int} {m : Mem} : negD (.int i) m = .ok (.int (-i)) m := Eq.trans rfl rfl
theorem abs_I {i : Int} {m : Mem} : bltD .abs [.int i] m = .ok (.int (if i < 0 then -i else i)) m := Eq.trans rfl rfl
theorem abs_N {i : Int} {m : Mem} : bltD .abs [.int i] m = .ok (.int (i.natAbs : Int)) m := by
  rw [abs_I]
  congr 2
  split <;> omega
theorem ix_tup {l : List D} {i : Int} {m : Mem} : idxD (.tup l) (.int i) m = liftO m (atI l i) := Eq.trans rfl rfl
theorem lift_some {α : Type} {a : α} {m : Mem} : liftO m (some a) = .ok a m := Eq.trans rfl rfl
theorem asT_var {m : Mem} {i : Nat} {d : D} {env : EnvD} : asgT m (.var i) d env = if i < env.length then some (env.set i (some d)) else none := by rw [asgT]
theorem asT_tup {m : Mem} {ts : List Tg} {ds : List D} {env : EnvD} : asgT m (.tup ts) (.tup ds) env = asgTs m ts ds env := by rw [asgT] <;> rfl
theorem asTs_nil {m : Mem} {env : EnvD} : asgTs m [] [] env = some env := by rw [asgTs]
theorem asTs_cons {m : Mem} {t : Tg} {ts : List Tg} {d : D} {ds : List D} {env : EnvD} : asgTs m (t :: ts) (d :: ds) env = (asgT m t d env).bind fun e => asgTs m ts ds e := by rw [asgTs]
theorem at_nat {l : List D} {k : Nat} : atI l (k : Int) = l[k]? := by
  unfold atI ixN
  rw [if_pos (Int.natCast_nonneg k)]
  split
  · rfl
  · rename_i h
    rw [List.getElem?_eq_none (by omega)]
    rfl
theorem at0 {l : List D} : atI l 0 = l[0]? := at_nat (k := 0)
theorem at1 {l : List D} : atI l 1 = l[1]? := at_nat (k := 1)
theorem at2 {l : List D} : atI l 2 = l[2]? := at_nat (k := 2)
theorem at3 {l : List D} : atI l 3 = l[3]? := at_nat (k := 3)
theorem ctl_call {P : Prog} {c1 c2 : CallT} {n : Nat} : (P.ctl c1 c2 n).call = c1 := Eq.trans rfl rfl
theorem sz {n : Nat} (h : n ≤ 64) : (n ≤ sizeLine) = True := by
  have : 64 ≤ sizeLine := by decide
  exact eq_true (by omega)
def finF (n : Nat) (o : Out) : Res D := match o with
  | .rt d m1 => (Res.ok d m1).gc n
  | .nx _ m1 => (Res.ok .non m1).gc n
  | .exn c p _ m1 => .exn c p m1
  | _ => .stuck
theorem finF_congr {n : Nat} {o o' : Out} (h : o = o') : finF n o = finF n o' := by rw [h]
theorem fin_rt {n : Nat} {d : D} {m : Mem} : finF n (.rt d m) = .ok d (gcM n d m) := Eq.trans rfl rfl
theorem fin_nx {n : Nat} {env : EnvD} {m : Mem} : finF n (.nx env m) = .ok .non (gcM n .non m) := Eq.trans rfl rfl
theorem fin_exn {n : Nat} {env : EnvD} {c : Str} {p : Option D} {m : Mem} : finF n (.exn c p env m) = .exn c p m := Eq.trans rfl rfl
theorem body_eq {C : Ctl} {np nn : Nat} {ir : List IS} {ds : List D} {m : Mem} (h : ds.length = np) : bodyF C ⟨np, nn, ir⟩ ds m = finF m.length (evalB C ir (startE np nn ds) m) := by
  unfold bodyF finF
  rw [if_pos h] <;> rfl
/-! ### gcd -/
theorem gcd_step (a b : Int) : Int.gcd b (a.fmod b) = Int.gcd a b := by
  have e : a.fmod b = a + b * (-(a.fdiv b)) := by
    rw [Int.fmod_def, Int.mul_neg, Int.sub_eq_add_neg]
  rw [e, Int.gcd_add_mul_left_right, Int.gcd_comm]
theorem fmod_lt (a b : Int) (h : b ≠ 0) : (a.fmod b).natAbs < b.natAbs := by
  rcases Int.lt_or_gt_of_ne h with h | h
  · have h1 := Int.fmod_lt_of_pos (-a) (b := -b) (by omega)
    have h2 := Int.fmod_nonneg_of_pos (-a) (b := -b) (by omega)
    rw [Int.neg_fmod_neg] at h1 h2
    omega
  · have h1 := Int.fmod_lt_of_pos a h
    have h2 := Int.fmod_nonneg_of_pos a h
    omega
end Dat

/-! DatFr -/
set_option linter.all false
set_option maxRecDepth 100000
set_option maxHeartbeats 4000000
/-! DatFr: a computation beside other memory. -/
namespace Dat
open PySem L2
section
variable (k : Nat)
mutual
def D.sh : D → D
  | .tup l => .tup (D.shL l)
  | .fro l => .fro (D.shL l)
  | .ref i => .ref (k + i)
  | .non => .non
  | .bl b => .bl b
  | .int i => .int i
  | .str x => .str x
def D.shL : List D → List D
  | [] => []
  | d :: l => D.sh d :: D.shL l
end
def Cell.sh : Cell → Cell
  | .lst l => .lst (D.shL k l)
  | .ins c fs => .ins c (fs.map fun p => (p.1, p.2.sh k))
  | .dct l => .dct (l.map fun p => (p.1, p.2.sh k))
theorem shL_map : ∀ l : List D, D.shL k l = l.map (D.sh k)
  | [] => rfl
  | d :: l => by rw [D.shL, shL_map l, List.map_cons]
def EnvD.sh (env : EnvD) : EnvD := env.map (Option.map (D.sh k))
end
section
variable {m0 : Mem}
def frM (m0 m : Mem) : Mem := m0 ++ m.map (Cell.sh m0.length)
def frR (m0 : Mem) : Res D → Res D
  | .ok a m => .ok (a.sh m0.length) (frM m0 m)
  | .exn c p m => .exn c (p.map (D.sh m0.length)) (frM m0 m)
  | .stuck => .stuck
def frRs (m0 : Mem) : Res (List D) → Res (List D)
  | .ok a m => .ok (D.shL m0.length a) (frM m0 m)
  | .exn c p m => .exn c (p.map (D.sh m0.length)) (frM m0 m)
  | .stuck => .stuck
def shO (k : Nat) : Wch → Wch
  | .none => .none
  | .some p => .some (k + p.1, D.shL k p.2)
  | .two p q => .two (k + p.1, D.shL k p.2) (k + q.1, D.shL k q.2)
def frI (m0 : Mem) : Res Items → Res Items
  | .ok a m => .ok (D.shL m0.length a.1, shO m0.length a.2) (frM m0 m)
  | .exn c p m => .exn c (p.map (D.sh m0.length)) (frM m0 m)
  | .stuck => .stuck
def frO (m0 : Mem) : Out → Out
  | .nx env m => .nx (EnvD.sh m0.length env) (frM m0 m)
  | .bk env m => .bk (EnvD.sh m0.length env) (frM m0 m)
  | .ct env m => .ct (EnvD.sh m0.length env) (frM m0 m)
  | .rt d m => .rt (d.sh m0.length) (frM m0 m)
  | .exn c p env m => .exn c (p.map (D.sh m0.length)) (EnvD.sh m0.length env) (frM m0 m)
  | .stuck => .stuck
theorem frM_len {m : Mem} : (frM m0 m).length = m0.length + m.length := by simp [frM]
theorem frM_get {m : Mem} {i : Nat} : (frM m0 m)[m0.length + i]? = (m[i]?).map (Cell.sh m0.length) := by
  unfold frM
  rw [List.getElem?_append_right (by omega)]
  simp
theorem frM_set {m : Mem} {i : Nat} {c : Cell} : (frM m0 m).set (m0.length + i) (c.sh m0.length) = frM m0 (m.set i c) := by
  unfold frM
  rw [List.set_append_right _ _ (by omega)]
  simp [List.map_set]
theorem frM_app {m : Mem} {c : Cell} : frM m0 m ++ [c.sh m0.length] = frM m0 (m ++ [c]) := by simp [frM]
mutual
theorem toPy0_sh {k : Nat} : ∀ d : D, toPy0 (d.sh k) = toPy0 d
  | .tup l => by simp [D.sh, toPy0, toPy0L_sh l]
  | .fro l => by simp [D.sh, toPy0, toPy0L_sh l]
  | .ref i => by simp [D.sh, toPy0]
  | .non => rfl
  | .bl _ => rfl
  | .int _ => rfl
  | .str _ => rfl
theorem toPy0L_sh {k : Nat} : ∀ l : List D, toPy0L (D.shL k l) = toPy0L l
  | [] => rfl
  | d :: l => by simp [D.shL, toPy0L, toPy0_sh d, toPy0L_sh l]
end
theorem toPyA_sh {m : Mem} (d : D) : toPyA (frM m0 m) (d.sh m0.length) = toPyA m d := by
  cases d with
  | ref i =>
    simp only [D.sh, toPyA, frM_get]
    cases m[i]? with
    | none => rfl
    | some c => cases c <;> simp [Cell.sh, toPy0L_sh]
  | tup l => simp [D.sh, toPyA, toPy0, toPy0L_sh]
  | fro l => simp [D.sh, toPyA, toPy0, toPy0L_sh]
  | _ => rfl
theorem toPyAL_sh {m : Mem} : ∀ l : List D, toPyAL (frM m0 m) (D.shL m0.length l) = toPyAL m l
  | [] => rfl
  | d :: l => by simp only [D.shL, toPyAL, toPyA_sh d, toPyAL_sh l]
theorem toPy_sh {m : Mem} (d : D) : toPy (frM m0 m) (d.sh m0.length) = toPy m d := by
  cases d with
  | ref i =>
    simp only [D.sh, toPy, frM_get]
    cases m[i]? with
    | none => rfl
    | some c => cases c <;> simp [Cell.sh, toPyAL_sh]
  | tup l => simp [D.sh, toPy, toPy0, toPy0L_sh]
  | fro l => simp [D.sh, toPy, toPy0, toPy0L_sh]
  | _ => rfl
theorem seqD_sh {m : Mem} (d : D) : seqD (frM m0 m) (d.sh m0.length) = (seqD m d).map (D.shL m0.length) := by
  cases d with
  | ref i =>
    simp only [D.sh, seqD, frM_get]
    cases m[i]? with
    | none => rfl
    | some c => cases c <;> rfl
  | _ => rfl
mutual
theorem undr_sh {k n : Nat} : ∀ d : D, D.undr (k + n) (d.sh k) = D.undr n d
  | .tup l => by simp [D.sh, D.undr, undrL_sh l]
  | .fro l => by simp [D.sh, D.undr, undrL_sh l]
  | .ref i => by simp [D.sh, D.undr]
  | .non => rfl
  | .bl _ => rfl
  | .int _ => rfl
  | .str _ => rfl
theorem undrL_sh {k n : Nat} : ∀ l : List D, D.undrL (k + n) (D.shL k l) = D.undrL n l
  | [] => rfl
  | d :: l => by simp [D.shL, D.undrL, undr_sh d, undrL_sh l]
end
theorem undrC_sh {k n : Nat} (c : Cell) : Cell.undr (k + n) (c.sh k) = c.undr n := by
  cases c with
  | lst l => simp [Cell.sh, Cell.undr, undrL_sh]
  | ins c fs => simp [Cell.sh, Cell.undr, List.all_map, Function.comp_def, undr_sh]
  | dct l => simp [Cell.sh, Cell.undr, List.all_map, Function.comp_def, undr_sh]
mutual
theorem undr_le {k n : Nat} (h : k ≤ n) : ∀ d : D, D.undr k d = true → D.undr n d = true
  | .tup l => by simp only [D.undr]; exact undrL_le h l
  | .fro l => by simp only [D.undr]; exact undrL_le h l
  | .ref i => by simp only [D.undr, decide_eq_true_eq]; omega
  | .non => fun _ => rfl
  | .bl _ => fun _ => rfl
  | .int _ => fun _ => rfl
  | .str _ => fun _ => rfl
theorem undrL_le {k n : Nat} (h : k ≤ n) : ∀ l : List D, D.undrL k l = true → D.undrL n l = true
  | [] => fun _ => rfl
  | d :: l => by
    simp only [D.undrL, Bool.and_eq_true]
    exact fun ⟨a, b⟩ => ⟨undr_le h d a, undrL_le h l b⟩
end
theorem undrC_le {k n : Nat} (h : k ≤ n) (c : Cell) (u : c.undr k = true) : c.undr n = true := by
  cases c with
  | lst l => exact undrL_le h l u
  | ins c fs => exact List.all_eq_true.mpr fun p hp => undr_le h _ (List.all_eq_true.mp u p hp)
  | dct l => exact List.all_eq_true.mpr fun p hp => undr_le h _ (List.all_eq_true.mp u p hp)
/-- nothing in it points out of it -/
def Clo (m : Mem) : Prop := ∀ c ∈ m, c.undr m.length = true
theorem gcM_sh (hc : Clo m0) {n : Nat} {a : D} {m : Mem} : gcM (m0.length + n) (a.sh m0.length) (frM m0 m) = frM m0 (gcM n a m) := by
  have e : (frM m0 m).take (m0.length + n) = m0 ++ (m.take n).map (Cell.sh m0.length) := by
    unfold frM
    rw [List.take_append, List.take_of_length_le (by omega), List.map_take]
    simp
  unfold gcM
  by_cases h : a.undr n = true ∧ ∀ c ∈ m.take n, c.undr n = true
  · rw [if_pos h, if_pos, e]
    · rfl
    · rw [e]
      refine ⟨by rw [undr_sh]; exact h.1, fun c hc' => ?_⟩
      rcases List.mem_append.mp hc' with z | z
      · exact undrC_le (by omega) c (hc c z)
      · obtain ⟨c', h1, rfl⟩ := List.mem_map.mp z
        rw [undrC_sh]
        exact h.2 c' h1
  · rw [if_neg h, if_neg]
    rw [e]
    rintro ⟨h1, h2⟩
    exact h ⟨by rw [undr_sh] at h1; exact h1, fun c hc' => by
      have := h2 _ (List.mem_append_right _ (List.mem_map_of_mem hc'))
      rwa [undrC_sh] at this⟩
theorem gc_sh (hc : Clo m0) {n : Nat} {r : Res D} : (frR m0 r).gc (m0.length + n) = frR m0 (r.gc n) := by
  cases r with
  | ok a m => simp only [frR, Res.gc, gcM_sh hc]
  | _ => rfl
end
end Dat

/-! DatFr2 -/
set_option linter.all false
set_option maxRecDepth 100000
set_option maxHeartbeats 4000000
namespace Dat
open PySem L2
section
variable {m0 : Mem}
theorem addD_sh (x y : D) (m : Mem) : addD (x.sh m0.length) (y.sh m0.length) (frM m0 m) = frR m0 (addD x y m) := by
  cases x <;> cases y <;> simp only [addD, D.sh, frR]
  case str.str a b => split <;> rfl
  case tup.tup a b =>
    simp only [shL_map, List.length_map]
    split
    · simp [frR, D.sh, shL_map]
    · rfl
  case ref.ref i j =>
    simp only [frM_get]
    cases hi : m[i]? with
    | none => rfl
    | some ci =>
      cases hj : m[j]? with
      | none => cases ci <;> rfl
      | some cj =>
        cases ci <;> cases cj <;> simp only [Option.map_some, Cell.sh] <;> try rfl
        rename_i a b
        simp only [shL_map, List.length_map]
        split
        · have e : Cell.lst (List.map (D.sh m0.length) a ++ List.map (D.sh m0.length) b) = (Cell.lst (a ++ b)).sh m0.length := by simp [Cell.sh, shL_map]
          rw [e, frM_app, frM_len]
          rfl
        · rfl
theorem rep_map {α β : Type} (f : α → β) (a : List α) : ∀ k : Nat, (List.replicate k (a.map f)).flatten = ((List.replicate k a).flatten).map f
  | 0 => rfl
  | k + 1 => by rw [List.replicate_succ, List.flatten_cons, rep_map f a k, List.replicate_succ, List.flatten_cons, List.map_append]
theorem mulD_sh (x y : D) (m : Mem) : mulD (x.sh m0.length) (y.sh m0.length) (frM m0 m) = frR m0 (mulD x y m) := by
  cases x <;> cases y <;> simp only [mulD, D.sh, frR]
  case int.int a b => split <;> rfl
  case str.int a b => split <;> rfl
  case tup.int a k =>
    have e1 : (D.shL m0.length a ≠ []) ↔ a ≠ [] := by cases a <;> simp [D.shL]
    have e2 : (List.replicate k.toNat (D.shL m0.length a)).flatten = D.shL m0.length (List.replicate k.toNat a).flatten := by simp only [shL_map, rep_map]
    have e3 : (D.shL m0.length a).length = a.length := by simp only [shL_map, List.length_map]
    rw [e2, e3]
    by_cases h : a ≠ [] ∧ 2 ≤ k ∧ k ≤ 1000 ∧ a.length ≤ 1000
    · rw [if_pos h, if_pos ⟨e1.mpr h.1, h.2⟩] <;> rfl
    · rw [if_neg h, if_neg (fun z => h ⟨e1.mp z.1, z.2⟩)]
  case ref.int i j =>
    simp only [frM_get]
    cases hi : m[i]? with
    | none => rfl
    | some ci =>
      cases ci <;> simp only [Option.map_some, Cell.sh] <;> try rfl
      rename_i a
      simp only [shL_map, List.length_map]
      split
      · have e : Cell.lst (List.replicate j.toNat (List.map (D.sh m0.length) a)).flatten = (Cell.lst (List.replicate j.toNat a).flatten).sh m0.length := by simp only [Cell.sh, shL_map, rep_map]
        rw [e, frM_app, frM_len]
        rfl
      · rfl
theorem binD_sh (op : Operator) (x y : D) (m : Mem) : binD op (x.sh m0.length) (y.sh m0.length) (frM m0 m) = frR m0 (binD op x y m) := by
  cases op <;> simp only [binD, addD_sh, mulD_sh, frR]
  all_goals (cases x <;> cases y <;> simp only [D.sh, frR])
  all_goals (try split) <;> rfl
theorem negD_sh (x : D) (m : Mem) : negD (x.sh m0.length) (frM m0 m) = frR m0 (negD x m) := by cases x <;> rfl
theorem liftB_sh (o : Option Bool) (f : Bool → D) (hf : ∀ b, (f b).sh m0.length = f b) (m : Mem) : liftO (frM m0 m) (o.map f) = frR m0 (liftO m (o.map f)) := by
  cases o <;> simp [liftO, frR, hf]
theorem eqD_sh (x y : D) (m : Mem) : eqD (frM m0 m) (x.sh m0.length) (y.sh m0.length) = eqD m x y := by
  unfold eqD
  rw [toPy_sh, toPy_sh]
theorem isD_sh (k : Nat) (x y : D) : isD (x.sh k) (y.sh k) = isD x y := by cases x <;> cases y <;> rfl
theorem inD_sh (x y : D) (m : Mem) : inD (frM m0 m) (x.sh m0.length) (y.sh m0.length) = inD m x y := by
  cases y <;> simp only [inD, D.sh, toPy_sh, toPy0L_sh, frM_get]
  rename_i i
  cases m[i]? with
  | none => rfl
  | some c => cases c <;> simp only [Option.map_some, Cell.sh, toPy0L_sh]
theorem cmpD_sh (op : CmpOp) (x y : D) (m : Mem) : cmpD op (x.sh m0.length) (y.sh m0.length) (frM m0 m) = frR m0 (cmpD op x y m) := by
  cases op <;> simp only [cmpD, eqD_sh, isD_sh, inD_sh]
  all_goals first
    | exact liftB_sh _ _ (fun b => rfl) m
    | (cases x <;> cases y <;> simp only [D.sh, frR] <;> exact liftB_sh _ _ (fun b => rfl) m)
theorem liftD_sh (o : Option D) (m : Mem) : liftO (frM m0 m) (o.map (D.sh m0.length)) = frR m0 (liftO m o) := by
  cases o <;> rfl
theorem atI_sh (k : Nat) (l : List D) (i : Int) : atI (D.shL k l) i = (atI l i).map (D.sh k) := by
  unfold atI
  rw [shL_map, List.length_map]
  cases ixN l.length i <;> simp
theorem idxD_sh (x y : D) (m : Mem) : idxD (x.sh m0.length) (y.sh m0.length) (frM m0 m) = frR m0 (idxD x y m) := by
  cases y
  case int i =>
    cases x
    case str z =>
      simp only [idxD, D.sh]
      split
      · cases atI z.cps.toList i <;> rfl
      · rfl
    all_goals
      simp only [idxD, D.sh]
      first
        | rfl
        | (have e := seqD_sh (m0 := m0) (m := m)
           simp only [seqD, frM_get])
    all_goals first
      | (simp only [atI_sh]; exact liftD_sh _ _)
      | skip
    rename_i j
    cases m[j]? with
    | none => rfl
    | some c => cases c <;> simp only [Option.map_some, Cell.sh, atI_sh] <;> first | rfl | exact liftD_sh _ _
  all_goals (cases x <;> rfl)
theorem cut_sh (k : Nat) (a : List D) (l h : Option Int) : cutD (D.shL k a) l h = D.shL k (cutD a l h) := by
  unfold cutD
  simp only [shL_map, List.length_map, List.map_take, List.map_drop]
theorem slcD_sh (x : D) (l h : Option Int) (m : Mem) : slcD (x.sh m0.length) l h (frM m0 m) = frR m0 (slcD x l h m) := by
  have go : ∀ a : List D, (Res.ok (D.ref (frM m0 m).length) (frM m0 m ++ [Cell.lst (cutD (D.shL m0.length a) l h)]) : Res D) = frR m0 (.ok (.ref m.length) (m ++ [.lst (cutD a l h)])) := fun a => by
    have e : Cell.lst (cutD (D.shL m0.length a) l h) = (Cell.lst (cutD a l h)).sh m0.length := by simp only [Cell.sh, cut_sh]
    rw [e, frM_app, frM_len]
    rfl
  cases x <;> simp only [slcD, D.sh, frR, cut_sh]
  case fro a => rw [← cut_sh]; exact go a
  case ref i =>
    simp only [frM_get]
    cases m[i]? with
    | none => rfl
    | some c => cases c <;> simp only [Option.map_some, Cell.sh] <;> first | rfl | exact go _
theorem newL_sh (l : List D) (m : Mem) : (Res.ok (D.ref (frM m0 m).length) (frM m0 m ++ [Cell.lst (D.shL m0.length l)]) : Res D) = frR m0 (.ok (.ref m.length) (m ++ [.lst l])) := by
  have e : Cell.lst (D.shL m0.length l) = (Cell.lst l).sh m0.length := rfl
  rw [e, frM_app, frM_len]
  rfl
theorem shL_len (k : Nat) (l : List D) : (D.shL k l).length = l.length := by rw [shL_map, List.length_map]
theorem lstD_sh {m : Mem} (d : D) : lstD (frM m0 m) (d.sh m0.length) = (lstD m d).map (D.shL m0.length) := by
  cases d with
  | ref i =>
    simp only [D.sh, lstD, frM_get]
    cases m[i]? with
    | none => rfl
    | some c => cases c <;> rfl
  | _ => rfl
theorem prD_sh (k : Nat) (l j : List D) : ((D.shL k l).zip (D.shL k j)).map prD = D.shL k ((l.zip j).map prD) := by
  simp only [shL_map, List.zip_map, List.map_map]
  apply List.map_congr_left
  intro p _
  simp [prD, D.sh, D.shL]
theorem tzipD_sh (x y : D) (m : Mem) : tzipD (x.sh m0.length) (y.sh m0.length) (frM m0 m) = frR m0 (tzipD x y m) := by
  unfold tzipD
  rw [lstD_sh, lstD_sh]
  cases lstD m x with
  | none => rfl
  | some l =>
    cases lstD m y with
    | none => rfl
    | some k =>
      simp only [Option.map_some, prD_sh]
      rfl
theorem kq_sh {c : Int} {n : Nat} : ∀ {x : D}, kq c (x.sh n) = kq c x ∧ ((kq c x).isSome = true → x.sh n = x)
  | .tup [.int p, .int d] => ⟨rfl, fun _ => rfl⟩
  | .tup [] => ⟨rfl, fun h => by cases h⟩
  | .tup [x] => ⟨by cases x <;> rfl, fun h => by cases x <;> cases h⟩
  | .tup [.non, y] => ⟨rfl, fun h => by cases h⟩
  | .tup [.bl _, y] => ⟨rfl, fun h => by cases h⟩
  | .tup [.str _, y] => ⟨rfl, fun h => by cases h⟩
  | .tup [.tup _, y] => ⟨rfl, fun h => by cases h⟩
  | .tup [.fro _, y] => ⟨rfl, fun h => by cases h⟩
  | .tup [.ref _, y] => ⟨rfl, fun h => by cases h⟩
  | .tup [.int _, .non] => ⟨rfl, fun h => by cases h⟩
  | .tup [.int _, .bl _] => ⟨rfl, fun h => by cases h⟩
  | .tup [.int _, .str _] => ⟨rfl, fun h => by cases h⟩
  | .tup [.int _, .tup _] => ⟨rfl, fun h => by cases h⟩
  | .tup [.int _, .fro _] => ⟨rfl, fun h => by cases h⟩
  | .tup [.int _, .ref _] => ⟨rfl, fun h => by cases h⟩
  | .tup (x :: y :: z :: r) => ⟨by cases x <;> cases y <;> rfl, fun h => by cases x <;> cases y <;> cases h⟩
  | .non => ⟨rfl, fun h => by cases h⟩
  | .bl _ => ⟨rfl, fun h => by cases h⟩
  | .int _ => ⟨rfl, fun h => by cases h⟩
  | .str _ => ⟨rfl, fun h => by cases h⟩
  | .fro _ => ⟨rfl, fun h => by cases h⟩
  | .ref _ => ⟨rfl, fun h => by cases h⟩
theorem keysQ_sh {c : Int} {n : Nat} : ∀ {l : List D}, keysQ c (D.shL n l) = keysQ c l ∧ ∀ bs, keysQ c l = some bs → ∀ b ∈ bs, b.1.sh n = b.1
  | [] => ⟨rfl, fun bs h b hb => by cases h; simp at hb⟩
  | x :: l => by
    obtain ⟨h1, h2⟩ := keysQ_sh (c := c) (n := n) (l := l)
    obtain ⟨h3, h4⟩ := kq_sh (c := c) (n := n) (x := x)
    simp only [D.shL, keysQ, h3, h1]
    cases hk : kq c x with
    | none => exact ⟨rfl, fun bs h => by cases h⟩
    | some k =>
      have e := h4 (by rw [hk]; rfl)
      cases hl : keysQ c l with
      | none => exact ⟨rfl, fun bs h => by cases h⟩
      | some r =>
        refine ⟨by simp only [e], fun bs h b hb => ?_⟩
        cases h
        rcases List.mem_cons.mp hb with z | z
        · rw [z]; exact e
        · exact h2 r hl b z
theorem sortQ_sh {c : Int} {n : Nat} {l : List D} : sortQ c (D.shL n l) = (sortQ c l).map (D.shL n) := by
  obtain ⟨h1, h2⟩ := keysQ_sh (c := c) (n := n) (l := l)
  unfold sortQ
  rw [h1]
  cases h : keysQ c l with
  | none => rfl
  | some bs =>
    simp only [Option.map_some, shL_map, List.map_map]
    congr 1
    apply List.map_congr_left
    intro b hb
    exact (h2 bs h b (List.mem_mergeSort.mp hb)).symm
theorem srtD_sh (c : Int) (x : D) (m : Mem) : srtD c (x.sh m0.length) (frM m0 m) = frR m0 (srtD c x m) := by
  unfold srtD
  rw [lstD_sh]
  cases lstD m x with
  | none => rfl
  | some l =>
    simp only [Option.map_some, sortQ_sh]
    cases sortQ c l with
    | none => rfl
    | some r => exact newL_sh r m
theorem bltD_sh (b : Blt) (l : List D) (m : Mem) : bltD b (D.shL m0.length l) (frM m0 m) = frR m0 (bltD b l m) := by
  match l with
  | [] => cases b <;> rfl
  | [x] =>
    cases b
    case abs => cases x <;> rfl
    case len =>
      cases x
      case str z => simp only [D.shL, D.sh, bltD]; split <;> rfl
      case ref i =>
        simp only [D.shL, D.sh, bltD, seqD, frM_get]
        cases m[i]? with
        | none => rfl
        | some c => cases c <;> simp only [Option.map_some, Cell.sh, shL_len] <;> rfl
      all_goals simp only [D.shL, D.sh, bltD, seqD, shL_len] <;> rfl
    case int => cases x <;> rfl
    case str => cases x <;> first | rfl | (simp only [D.shL, D.sh, bltD]; split <;> rfl)
    case list =>
      have e := seqD_sh (m0 := m0) (m := m) x
      simp only [D.shL, bltD, e]
      cases seqD m x with
      | none => rfl
      | some l => exact newL_sh l m
    case tuple =>
      cases x
      case ref i =>
        simp only [D.shL, D.sh, bltD, seqD, frM_get]
        cases m[i]? with
        | none => rfl
        | some c => cases c <;> rfl
      all_goals rfl
    case srtQ c => exact srtD_sh c x m
    all_goals (cases x <;> rfl)
  | [x, y] =>
    cases b
    case tzip => exact tzipD_sh x y m
    all_goals (cases x <;> cases y <;> rfl)
  | _ :: _ :: _ :: _ => cases b <;> simp [bltD, D.shL, frR]
theorem erase_map {α β : Type} (f : α → β) : ∀ (l : List α) (j : Nat), (l.map f).eraseIdx j = (l.eraseIdx j).map f
  | [], _ => rfl
  | _ :: _, 0 => rfl
  | x :: l, j + 1 => by simp [List.eraseIdx_cons_succ, erase_map f l j]
theorem mthD_sh (q : Mth) (o : D) (l : List D) (m : Mem) : mthD q (o.sh m0.length) (D.shL m0.length l) (frM m0 m) = frR m0 (mthD q o l m) := by
  cases o
  case ref a =>
    simp only [D.sh, mthD, frM_get]
    cases ha : m[a]? with
    | none => rfl
    | some c =>
      cases c
      case lst xs =>
        simp only [Option.map_some, Cell.sh]
        match q, l with
        | .append, [] => rfl
        | .append, [y] =>
          simp only [D.shL, shL_len]
          split
          · have e : Cell.lst (D.shL m0.length xs ++ [D.sh m0.length y]) = (Cell.lst (xs ++ [y])).sh m0.length := by simp [Cell.sh, shL_map]
            rw [e, frM_set]
            rfl
          · rfl
        | .append, _ :: _ :: _ => rfl
        | .pop, [] =>
          simp only [D.shL, shL_len]
          rw [shL_map, List.getElem?_map]
          cases xs[xs.length - 1]? with
          | none => rfl
          | some y =>
            have e : Cell.lst (List.map (D.sh m0.length) xs).dropLast = (Cell.lst xs.dropLast).sh m0.length := by simp [Cell.sh, shL_map, List.map_dropLast]
            simp only [Option.map_some]
            rw [e, frM_set]
            rfl
        | .pop, _ :: _ => rfl
        | .popAt, [] => rfl
        | .popAt, [y] =>
          cases y
          case int i =>
            simp only [D.shL, D.sh, shL_len]
            split
            · cases seqIndex? i xs.length with
              | none => rfl
              | some j =>
                simp only [shL_map, List.getElem?_map]
                cases xs[j]? with
                | none => rfl
                | some y =>
                  have e : Cell.lst ((List.map (D.sh m0.length) xs).eraseIdx j) = (Cell.lst (xs.eraseIdx j)).sh m0.length := by simp only [Cell.sh, shL_map, erase_map]
                  simp only [Option.map_some]
                  rw [e, frM_set]
                  rfl
            · rfl
          all_goals rfl
        | .popAt, x :: _ :: _ => cases x <;> rfl
        | .insert, [] => rfl
        | .insert, [x] => cases x <;> rfl
        | .insert, [x, y] =>
          cases x
          case int i =>
            simp only [D.shL, D.sh, shL_len]
            split
            · have e : Cell.lst (List.take i.toNat (D.shL m0.length xs) ++ [D.sh m0.length y] ++ List.drop i.toNat (D.shL m0.length xs)) = (Cell.lst (List.take i.toNat xs ++ [y] ++ List.drop i.toNat xs)).sh m0.length := by simp [Cell.sh, shL_map, List.map_take, List.map_drop]
              rw [e, frM_set]
              rfl
            · rfl
          all_goals rfl
        | .insert, x :: _ :: _ :: _ => cases x <;> rfl
        | .extend, _ => rfl
      all_goals (cases q <;> rfl)
  all_goals rfl
theorem isL_sh (o : D) (m : Mem) : isL (frM m0 m) (o.sh m0.length) = isL m o := by
  cases o
  case ref a =>
    simp only [D.sh, isL, frM_get]
    cases m[a]? with
    | none => rfl
    | some c => cases c <;> rfl
  all_goals rfl
theorem env_get (k : Nat) (env : EnvD) (i : Nat) : (EnvD.sh k env)[i]? = (env[i]?).map (Option.map (D.sh k)) := by
  unfold EnvD.sh
  rw [List.getElem?_map]
theorem env_set (k : Nat) (env : EnvD) (i : Nat) (d : D) : (EnvD.sh k env).set i (some (d.sh k)) = EnvD.sh k (env.set i (some d)) := by
  unfold EnvD.sh
  rw [List.map_set] <;> rfl
theorem env_setN (k : Nat) (env : EnvD) (i : Nat) : (EnvD.sh k env).set i none = EnvD.sh k (env.set i none) := by
  unfold EnvD.sh
  rw [List.map_set] <;> rfl
theorem env_len (k : Nat) (env : EnvD) : (EnvD.sh k env).length = env.length := by simp [EnvD.sh]
theorem wipe_sh (k : Nat) (env : EnvD) : ∀ vs : List Nat, wipeE (EnvD.sh k env) vs = EnvD.sh k (wipeE env vs)
  | [] => rfl
  | v :: vs => by rw [wipeE, wipe_sh k env vs, env_setN, wipeE]
mutual
theorem asgT_sh {m : Mem} : ∀ (t : Tg) (d : D) (env : EnvD), asgT (frM m0 m) t (d.sh m0.length) (EnvD.sh m0.length env) = (asgT m t d env).map (EnvD.sh m0.length)
  | .var i, d, env => by
    rw [asgT, asgT, env_len]
    split
    · rw [env_set] <;> rfl
    · rfl
  | .tup ts, d, env => by
    rw [asgT, asgT, seqD_sh]
    cases seqD m d with
    | none => rfl
    | some ds => exact asgTs_sh ts ds env
theorem asgTs_sh {m : Mem} : ∀ (t : List Tg) (d : List D) (env : EnvD), asgTs (frM m0 m) t (D.shL m0.length d) (EnvD.sh m0.length env) = (asgTs m t d env).map (EnvD.sh m0.length)
  | [], [], env => by simp [asgTs, D.shL]
  | t :: ts, d :: ds, env => by
    simp only [asgTs, D.shL, asgT_sh t d env]
    cases asgT m t d env with
    | none => rfl
    | some e => exact asgTs_sh ts ds e
  | [], d :: ds, env => by simp [asgTs, D.shL]
  | t :: ts, [], env => by simp [asgTs, D.shL]
end
theorem seqW_sh (x : D) (m : Mem) : seqW (x.sh m0.length) (frM m0 m) = frI m0 (seqW x m) := by
  cases x
  case ref i =>
    simp only [D.sh, seqW, frM_get]
    cases m[i]? with
    | none => rfl
    | some c => cases c <;> rfl
  all_goals rfl
theorem rngL_sh (k : Nat) (a : Int) (n : Nat) : D.shL k (rngL a n) = rngL a n := by
  unfold rngL
  rw [shL_map, List.map_map]
  rfl
theorem rngD_sh (ds : List D) (m : Mem) : rngD (D.shL m0.length ds) (frM m0 m) = frI m0 (rngD ds m) := by
  match ds with
  | [] => rfl
  | [x] => cases x <;> rfl
  | [x, y] =>
    cases x <;> cases y <;> first | rfl | skip
    simp only [D.shL, D.sh, rngD]
    split
    · simp only [frI, rngL_sh]; rfl
    · rfl
  | x :: y :: _ :: _ => cases x <;> cases y <;> rfl
theorem zip_sh (k : Nat) (l j : List D) : (List.map (fun p : D × D => D.tup [p.1, p.2]) ((D.shL k l).zip (D.shL k j))) = D.shL k ((l.zip j).map fun p => .tup [p.1, p.2]) := by
  simp only [shL_map, List.zip_map, List.map_map]
  refine List.map_congr_left fun p _ => ?_
  simp [D.sh, D.shL]
theorem zipD_sh (ds : List D) (m : Mem) : zipD (D.shL m0.length ds) (frM m0 m) = frI m0 (zipD ds m) := by
  match ds with
  | [] => rfl
  | [x] => cases x <;> rfl
  | [x, y] =>
    cases x <;> cases y <;> first | rfl | skip
    case tup.tup => simp only [D.shL, D.sh, zipD, frI, zip_sh]; rfl
    case ref.ref i j =>
      simp only [D.shL, D.sh, zipD, frM_get]
      cases m[i]? with
      | none => rfl
      | some ci =>
        cases m[j]? with
        | none => cases ci <;> rfl
        | some cj =>
          cases ci <;> cases cj <;> simp only [Option.map_some, Cell.sh] <;> try rfl
          simp only [frI, zip_sh, shO]
  | x :: y :: _ :: _ => cases x <;> cases y <;> rfl
mutual
theorem sh_inj {k : Nat} : ∀ a b : D, a.sh k = b.sh k → a = b
  | .tup l, b, h => by cases b <;> simp [D.sh] at h ⊢; exact shL_inj l _ h
  | .fro l, b, h => by cases b <;> simp [D.sh] at h ⊢; exact shL_inj l _ h
  | .ref i, b, h => by cases b <;> simp [D.sh] at h ⊢; omega
  | .non, b, h => by cases b <;> simp [D.sh] at h ⊢
  | .bl _, b, h => by cases b <;> simp [D.sh] at h ⊢; exact h
  | .int _, b, h => by cases b <;> simp [D.sh] at h ⊢; exact h
  | .str _, b, h => by cases b <;> simp [D.sh] at h ⊢; exact h
theorem shL_inj {k : Nat} : ∀ a b : List D, D.shL k a = D.shL k b → a = b
  | [], b, h => by cases b <;> simp [D.shL] at h ⊢
  | x :: l, b, h => by
    cases b
    · simp [D.shL] at h
    · simp only [D.shL, List.cons.injEq] at h
      rw [sh_inj x _ h.1, shL_inj l _ h.2]
end
theorem chk1_sh (i : Nat) (ds : List D) (m : Mem) : chk1 (m0.length + i) (D.shL m0.length ds) (frM m0 m) ↔ chk1 i ds m := by
  show (frM m0 m)[m0.length + i]? = some (.lst (D.shL m0.length ds)) ↔ m[i]? = some (.lst ds)
  rw [frM_get]
  cases m[i]? with
  | none => simp
  | some c =>
    cases c <;> simp [Cell.sh]
    exact ⟨shL_inj _ _, fun h => by rw [h]⟩
theorem chkW_sh (o : Wch) (m : Mem) : chkW (shO m0.length o) (frM m0 m) ↔ chkW o m := by
  cases o with
  | none => exact Iff.rfl
  | some p => exact chk1_sh p.1 p.2 m
  | two p q => exact and_congr (chk1_sh p.1 p.2 m) (chk1_sh q.1 q.2 m)
def frU (m0 : Mem) : Res Unit → Res Unit
  | .ok a m => .ok a (frM m0 m)
  | .exn c p m => .exn c (p.map (D.sh m0.length)) (frM m0 m)
  | .stuck => .stuck
theorem setD_sh (o i v : D) (m : Mem) : setD (o.sh m0.length) (i.sh m0.length) (v.sh m0.length) (frM m0 m) = frU m0 (setD o i v m) := by
  cases o
  case ref a =>
    cases i
    case int q =>
      simp only [D.sh, setD, frM_get]
      cases m[a]? with
      | none => rfl
      | some c =>
        cases c <;> simp only [Option.map_some, Cell.sh] <;> try rfl
        rename_i xs
        rw [shL_len]
        cases ixN xs.length q with
        | none => rfl
        | some j =>
          have e : Cell.lst ((D.shL m0.length xs).set j (v.sh m0.length)) = (Cell.lst (xs.set j v)).sh m0.length := by simp [Cell.sh, shL_map, List.map_set]
          simp only
          rw [e, frM_set]
          rfl
    all_goals rfl
  all_goals (cases i <;> rfl)
end
end Dat

/-! DatFr3 -/
set_option linter.all false
set_option maxRecDepth 100000
set_option maxHeartbeats 4000000
namespace Dat
open PySem L2
mutual
theorem sh_con {k : Nat} : ∀ d : D, D.undr 0 d = true → d.sh k = d
  | .tup l, h => by simp only [D.sh]; rw [shL_con l (by simpa [D.undr] using h)]
  | .fro l, h => by simp only [D.sh]; rw [shL_con l (by simpa [D.undr] using h)]
  | .ref i, h => by simp [D.undr] at h
  | .non, _ => rfl
  | .bl _, _ => rfl
  | .int _, _ => rfl
  | .str _, _ => rfl
theorem shL_con {k : Nat} : ∀ l : List D, D.undrL 0 l = true → D.shL k l = l
  | [], _ => rfl
  | d :: l, h => by
    have h2 : D.undr 0 d = true ∧ D.undrL 0 l = true := by simpa [D.undrL] using h
    rw [D.shL, sh_con d h2.1, shL_con l h2.2]
end
mutual
/-- its constants name no place -/
def okE : IE → Bool
  | .con d => D.undr 0 d
  | .glo _ d => D.undr 0 d
  | .bin _ a b => okE a && okE b
  | .neg a => okE a
  | .notE a => okE a
  | .cmp _ a b => okE a && okE b
  | .cmp2 _ _ a b c => okE a && (okE b && okE c)
  | .andE a b => okE a && okE b
  | .orE a b => okE a && okE b
  | .ifE a b c => okE a && (okE b && okE c)
  | .idx a b => okE a && okE b
  | .slc _ _ a b c => okE a && (okE b && okE c)
  | .tup l => okEs l
  | .lst l => okEs l
  | .call _ l => okEs l
  | .blt _ l => okEs l
  | .mth _ o l => okE o && okEs l
  | .comp _ it c e _ => okI it && (okE c && okE e)
  | .comp2 _ it _ _ e _ _ => okI it && okE e
  | .told _ e => okE e
  | .lrev e => okE e
  | .anyNI e => okE e
  | .isT e => okE e
  | .anyL e => okE e
  | .var _ => true
  | .nop => true
def okEs : List IE → Bool
  | [] => true
  | e :: l => okE e && okEs l
def okI : II → Bool
  | .seq e => okE e
  | .rng1 l => okEs l
  | .rng l => okEs l
  | .rev e => okE e
  | .enm e => okE e
  | .zip l => okEs l
end
structure CtlFr (m0 : Mem) (C C' : Ctl) : Prop where
  call : ∀ f ds m, C'.call f (D.shL m0.length ds) (frM m0 m) = frR m0 (C.call f ds m)
  call2 : ∀ f ds m, C'.call2 f (D.shL m0.length ds) (frM m0 m) = frR m0 (C.call2 f ds m)
  told : C'.told = C.told
  sub : C'.sub = C.sub
  turns : C'.turns = C.turns
theorem CtlFr.inner {m0 : Mem} {C C' : Ctl} (h : CtlFr m0 C C') : CtlFr m0 C.inner C'.inner := ⟨h.call2, h.call2, rfl, h.sub, h.turns⟩
section
variable {m0 : Mem} {C C' : Ctl}
theorem bindR {r : Res D} {f g : D → Mem → Res D} (h : ∀ a m, g (a.sh m0.length) (frM m0 m) = frR m0 (f a m)) : (frR m0 r).bind g = frR m0 (r.bind f) := by
  cases r with
  | ok a m => exact h a m
  | _ => rfl
theorem bindRs {r : Res (List D)} {f g : List D → Mem → Res D} (h : ∀ a m, g (D.shL m0.length a) (frM m0 m) = frR m0 (f a m)) : (frRs m0 r).bind g = frR m0 (r.bind f) := by
  cases r with
  | ok a m => exact h a m
  | _ => rfl
theorem bindRI {r : Res D} {f g : D → Mem → Res Items} (h : ∀ a m, g (a.sh m0.length) (frM m0 m) = frI m0 (f a m)) : (frR m0 r).bind g = frI m0 (r.bind f) := by
  cases r with
  | ok a m => exact h a m
  | _ => rfl
theorem bindRsI {r : Res (List D)} {f g : List D → Mem → Res Items} (h : ∀ a m, g (D.shL m0.length a) (frM m0 m) = frI m0 (f a m)) : (frRs m0 r).bind g = frI m0 (r.bind f) := by
  cases r with
  | ok a m => exact h a m
  | _ => rfl
theorem bindRRs {r : Res D} {f g : D → Mem → Res (List D)} (h : ∀ a m, g (a.sh m0.length) (frM m0 m) = frRs m0 (f a m)) : (frR m0 r).bind g = frRs m0 (r.bind f) := by
  cases r with
  | ok a m => exact h a m
  | _ => rfl
theorem bindRsRs {r : Res (List D)} {f g : List D → Mem → Res (List D)} (h : ∀ a m, g (D.shL m0.length a) (frM m0 m) = frRs m0 (f a m)) : (frRs m0 r).bind g = frRs m0 (r.bind f) := by
  cases r with
  | ok a m => exact h a m
  | _ => rfl
theorem bindI {r : Res Items} {f g : Items → Mem → Res D} (h : ∀ a m, g (D.shL m0.length a.1, shO m0.length a.2) (frM m0 m) = frR m0 (f a m)) : (frI m0 r).bind g = frR m0 (r.bind f) := by
  cases r with
  | ok a m => exact h a m
  | _ => rfl
theorem bindII {r : Res Items} {f g : Items → Mem → Res Items} (h : ∀ a m, g (D.shL m0.length a.1, shO m0.length a.2) (frM m0 m) = frI m0 (f a m)) : (frI m0 r).bind g = frI m0 (r.bind f) := by
  cases r with
  | ok a m => exact h a m
  | _ => rfl
theorem asB_sh {x : D} {f g : Bool → Res D} (h : ∀ b, g b = frR m0 (f b)) : asB (x.sh m0.length) g = frR m0 (asB x f) := by
  cases x with
  | bl b => exact h b
  | _ => rfl
theorem part_sh (k : Nat) (b : Bool) (d : D) : partD b (d.sh k) = partD b d := by
  unfold partD
  cases b <;> cases d <;> rfl
def frOp (m0 : Mem) : Res (Option D) → Res (Option D)
  | .ok a m => .ok (a.map (D.sh m0.length)) (frM m0 m)
  | .exn c p m => .exn c (p.map (D.sh m0.length)) (frM m0 m)
  | .stuck => .stuck
theorem allI_sh (k : Nat) : ∀ l : List D, allI (D.shL k l) = allI l
  | [] => rfl
  | d :: l => by
    have h := allI_sh k l
    unfold allI at h ⊢
    rw [D.shL, List.all_cons, List.all_cons, h]
    cases d <;> rfl
theorem compL_sh {o : Wch} {f g : D → Mem → Res (Option D)} (h : ∀ d m, g (d.sh m0.length) (frM m0 m) = frOp m0 (f d m)) : ∀ (l : List D) (m : Mem), compL (shO m0.length o) g (D.shL m0.length l) (frM m0 m) = frRs m0 (compL o f l m)
  | [], m => by
    simp only [D.shL, compL, chkW_sh]
    split <;> rfl
  | d :: l, m => by
    simp only [D.shL, compL, chkW_sh, h]
    split
    · cases f d m with
      | stuck => rfl
      | exn _ _ _ => rfl
      | ok r m1 =>
        simp only [frOp, Res.bind]
        rw [compL_sh h l m1]
        cases compL o f l m1 with
        | stuck => rfl
        | exn _ _ _ => rfl
        | ok l2 m2 => cases r <;> rfl
    · rfl
theorem comp2L_sh {o : Wch} {f g : D → Mem → Res (List D)} (h : ∀ d m, g (d.sh m0.length) (frM m0 m) = frRs m0 (f d m)) : ∀ (l : List D) (m : Mem), comp2L (shO m0.length o) g (D.shL m0.length l) (frM m0 m) = frRs m0 (comp2L o f l m)
  | [], m => by
    simp only [D.shL, comp2L, chkW_sh]
    split <;> rfl
  | d :: l, m => by
    simp only [D.shL, comp2L, chkW_sh, h]
    split
    · cases f d m with
      | stuck => rfl
      | exn _ _ _ => rfl
      | ok r m1 =>
        simp only [frRs, Res.bind]
        rw [comp2L_sh h l m1]
        cases comp2L o f l m1 with
        | stuck => rfl
        | exn _ _ _ => rfl
        | ok l2 m2 =>
          simp only [frRs]
          rw [shL_map, shL_map, shL_map, List.map_append]
    · rfl
theorem listD_sh {m : Mem} (d : D) : listD (frM m0 m) (d.sh m0.length) = (listD m d).map (D.shL m0.length) := by
  cases d with
  | ref i =>
    simp only [D.sh, listD, frM_get]
    cases m[i]? with
    | none => rfl
    | some c => cases c <;> rfl
  | _ => rfl
theorem atI_shL (k : Nat) (l : List D) (i : Int) : atI (D.shL k l) i = (atI l i).map (D.sh k) := by
  unfold atI
  rw [shL_len]
  cases ixN l.length i with
  | none => rfl
  | some j => simp [shL_map]
theorem lastZ_sh {m : Mem} (d : D) : lastZ (frM m0 m) (d.sh m0.length) = lastZ m d := by
  unfold lastZ
  rw [listD_sh]
  cases listD m d with
  | none => rfl
  | some ws =>
    simp only [Option.map_some]
    rw [atI_shL]
    cases atI ws (-1) with
    | none => rfl
    | some t =>
      cases t with
      | tup zs =>
        simp only [Option.map_some, D.sh]
        rw [atI_shL]
        cases atI zs 0 with
        | none => rfl
        | some z => cases z <;> rfl
      | _ => rfl
theorem anyZ_sh {m : Mem} (l : List D) : anyZ (frM m0 m) (D.shL m0.length l) = anyZ m l := by
  have h1 : ((D.shL m0.length l).all fun d => (lastZ (frM m0 m) d).isSome) = (l.all fun d => (lastZ m d).isSome) := by
    rw [shL_map, List.all_map]
    congr 1
    funext d
    simp only [Function.comp, lastZ_sh]
  have h2 : ((D.shL m0.length l).any fun d => decide ((lastZ (frM m0 m) d).getD 0 ≠ 0)) = (l.any fun d => decide ((lastZ m d).getD 0 ≠ 0)) := by
    rw [shL_map, List.any_map]
    congr 1
    funext d
    simp only [Function.comp, lastZ_sh]
  unfold anyZ
  rw [h1, h2]
theorem enm_sh (k : Nat) (l : List D) : ((D.shL k l).zipIdx).map (fun p : D × Nat => D.tup [.int (p.2 : Nat), p.1]) = D.shL k ((l.zipIdx).map fun p => .tup [.int (p.2 : Nat), p.1]) := by
  rw [shL_map, shL_map, List.zipIdx_map, List.map_map, List.map_map]
  rfl
theorem rev_shL (k : Nat) (l : List D) : (D.shL k l).reverse = D.shL k l.reverse := by rw [shL_map, shL_map, List.map_reverse]
variable (hc : Clo m0)
include hc
mutual
theorem frE : ∀ (e : IE), okE e = true → ∀ (C C' : Ctl) (env : EnvD) (m : Mem), CtlFr m0 C C' → evalE e C' (EnvD.sh m0.length env) (frM m0 m) = frR m0 (evalE e C env m)
  | .var i, _, C, C', env, m, h => by
    simp only [e_var, env_get]
    cases env[i]? with
    | none => rfl
    | some o => cases o <;> rfl
  | .con d, ok, C, C', env, m, h => by
    simp only [e_con, frR]
    rw [sh_con d (by simpa [okE] using ok)]
  | .glo x d, ok, C, C', env, m, h => by
    simp only [e_glo, frR]
    rw [sh_con d (by simpa [okE] using ok)]
  | .nop, _, C, C', env, m, h => by simp only [e_nop]; rfl
  | .bin op a b, ok, C, C', env, m, h => by
    simp only [okE, Bool.and_eq_true] at ok
    rw [e_bin, e_bin, frE a ok.1 C C' env m h]
    refine bindR fun x m1 => ?_
    rw [frE b ok.2 C C' env m1 h]
    exact bindR fun y m2 => binD_sh op x y m2
  | .neg a, ok, C, C', env, m, h => by
    simp only [okE] at ok
    rw [e_neg, e_neg, frE a ok C C' env m h]
    exact bindR fun x m1 => negD_sh x m1
  | .notE a, ok, C, C', env, m, h => by
    simp only [okE] at ok
    rw [e_not, e_not, frE a ok C C' env m h]
    exact bindR fun x m1 => asB_sh fun b => rfl
  | .cmp op a b, ok, C, C', env, m, h => by
    simp only [okE, Bool.and_eq_true] at ok
    rw [e_cmp, e_cmp, frE a ok.1 C C' env m h]
    refine bindR fun x m1 => ?_
    rw [frE b ok.2 C C' env m1 h]
    exact bindR fun y m2 => cmpD_sh op x y m2
  | .cmp2 o1 o2 a b c, ok, C, C', env, m, h => by
    simp only [okE, Bool.and_eq_true] at ok
    rw [e_cmp2, e_cmp2, frE a ok.1 C C' env m h]
    refine bindR fun x m1 => ?_
    rw [frE b ok.2.1 C C' env m1 h]
    refine bindR fun y m2 => ?_
    rw [cmpD_sh]
    refine bindR fun r m3 => asB_sh fun t => ?_
    cases t with
    | true =>
      simp only [if_true]
      rw [frE c ok.2.2 C C' env m3 h]
      exact bindR fun z m4 => cmpD_sh o2 y z m4
    | false => rfl
  | .andE a b, ok, C, C', env, m, h => by
    simp only [okE, Bool.and_eq_true] at ok
    rw [e_and, e_and, frE a ok.1 C C' env m h]
    refine bindR fun x m1 => asB_sh fun t => ?_
    cases t with
    | true => exact frE b ok.2 C C' env m1 h
    | false => simp only [selE_f, e_con]; rfl
  | .orE a b, ok, C, C', env, m, h => by
    simp only [okE, Bool.and_eq_true] at ok
    rw [e_or, e_or, frE a ok.1 C C' env m h]
    refine bindR fun x m1 => asB_sh fun t => ?_
    cases t with
    | true => simp only [selE_t, e_con]; rfl
    | false => exact frE b ok.2 C C' env m1 h
  | .ifE c a b, ok, C, C', env, m, h => by
    simp only [okE, Bool.and_eq_true] at ok
    rw [e_if, e_if, frE c ok.1 C C' env m h]
    refine bindR fun x m1 => asB_sh fun t => ?_
    cases t with
    | true => exact frE a ok.2.1 C C' env m1 h
    | false => exact frE b ok.2.2 C C' env m1 h
  | .idx a b, ok, C, C', env, m, h => by
    simp only [okE, Bool.and_eq_true] at ok
    rw [e_idx, e_idx, frE a ok.1 C C' env m h]
    refine bindR fun x m1 => ?_
    rw [frE b ok.2 C C' env m1 h]
    exact bindR fun y m2 => idxD_sh x y m2
  | .slc bl bh a lo hi, ok, C, C', env, m, h => by
    simp only [okE, Bool.and_eq_true] at ok
    simp only [evalE]
    rw [frE a ok.1 C C' env m h]
    refine bindR fun x m1 => ?_
    rw [frE lo ok.2.1 C C' env m1 h]
    refine bindR fun l m2 => ?_
    rw [part_sh]
    cases partD bl l with
    | none => rfl
    | some l' =>
      simp only
      rw [frE hi ok.2.2 C C' env m2 h]
      refine bindR fun hh m3 => ?_
      rw [part_sh]
      cases partD bh hh with
      | none => rfl
      | some h' => exact slcD_sh x l' h' m3
  | .tup l, ok, C, C', env, m, h => by
    simp only [okE] at ok
    rw [e_tup, e_tup, frEs l ok C C' env m h]
    refine bindRs fun ds m1 => ?_
    rw [shL_len]
    split <;> rfl
  | .lst l, ok, C, C', env, m, h => by
    simp only [okE] at ok
    rw [e_lst, e_lst, frEs l ok C C' env m h]
    refine bindRs fun ds m1 => ?_
    rw [shL_len]
    split
    · exact newL_sh ds m1
    · rfl
  | .call f l, ok, C, C', env, m, h => by
    simp only [okE] at ok
    rw [e_call, e_call, frEs l ok C C' env m h]
    exact bindRs fun ds m1 => h.call f ds m1
  | .blt b l, ok, C, C', env, m, h => by
    simp only [okE] at ok
    rw [e_blt, e_blt, frEs l ok C C' env m h]
    exact bindRs fun ds m1 => bltD_sh b ds m1
  | .mth q o l, ok, C, C', env, m, h => by
    simp only [okE, Bool.and_eq_true] at ok
    rw [e_mth, e_mth, frE o ok.1 C C' env m h]
    refine bindR fun x m1 => ?_
    rw [isL_sh]
    split
    · rw [frEs l ok.2 C C' env m1 h]
      exact bindRs fun ds m2 => mthD_sh q x ds m2
    · rfl
  | .comp tg it c e own, ok, C, C', env, m, h => by
    simp only [okE, Bool.and_eq_true] at ok
    simp only [evalE]
    rw [frI_ it ok.1 C C' env m h]
    refine bindI fun I m1 => ?_
    rw [compL_sh (f := fun d m2 => match asgT m2 tg d (wipeE env own) with
        | some env2 => (match evalE c C env2 m2 with
          | .ok (.bl true) m3 => (match evalE e C env2 m3 with
            | .ok x m4 => .ok (some x) m4
            | _ => .stuck)
          | .ok (.bl false) m3 => .ok none m3
          | _ => .stuck)
        | none => .stuck) (fun d m2 => ?_)]
    · refine bindRs fun l m2 => ?_
      rw [shL_len]
      split
      · exact newL_sh l m2
      · rfl
    · simp only [wipe_sh, asgT_sh]
      cases asgT m2 tg d (wipeE env own) with
      | none => rfl
      | some env2 =>
        simp only [Option.map_some]
        rw [frE c ok.2.1 C C' env2 m2 h]
        cases evalE c C env2 m2 with
        | stuck => rfl
        | exn _ _ _ => rfl
        | ok t m3 =>
          cases t with
          | bl t =>
            cases t with
            | true =>
              simp only [frR, D.sh]
              rw [frE e ok.2.2 C C' env2 m3 h]
              cases evalE e C env2 m3 <;> rfl
            | false => rfl
          | _ => rfl
  | .comp2 tg it tg1 v1 e own vs1, ok, C, C', env, m, h => by
    simp only [okE, Bool.and_eq_true] at ok
    simp only [evalE]
    rw [frI_ it ok.1 C C' env m h]
    refine bindI fun I m1 => ?_
    rw [comp2L_sh (f := fun d m2 => match asgT m2 tg d (wipeE env own) with
      | some env2 => (match env2[v1]? with
        | some (some (.tup l1)) => (match compL .none (fun d1 m4 =>
            match asgT m4 tg1 d1 (wipeE env2 vs1) with
            | some env3 => (match evalE e C env3 m4 with
              | .ok x m5 => .ok (some x) m5
              | _ => .stuck)
            | none => .stuck) l1 m2 with
          | .ok l m5 => .ok l m5
          | _ => .stuck)
        | _ => .stuck)
      | none => .stuck) (fun d m2 => ?_)]
    · refine bindRs fun l m2 => ?_
      rw [shL_len]
      split
      · exact newL_sh l m2
      · rfl
    · simp only [wipe_sh, asgT_sh]
      cases asgT m2 tg d (wipeE env own) with
      | none => rfl
      | some env2 =>
        simp only [Option.map_some, env_get]
        cases env2[v1]? with
        | none => rfl
        | some o =>
          cases o with
          | none => rfl
          | some x =>
            cases x with
            | tup l1 =>
              simp only [Option.map_some, D.sh]
              refine (congrArg (fun r : Res (List D) => (match r with
                | .ok l m5 => Res.ok l m5
                | _ => .stuck)) (compL_sh (o := .none) (f := fun d1 m4 =>
                match asgT m4 tg1 d1 (wipeE env2 vs1) with
                | some env3 => (match evalE e C env3 m4 with
                  | .ok x m5 => .ok (some x) m5
                  | _ => .stuck)
                | none => .stuck) (fun d1 m4 => ?_) l1 m2)).trans ?_
              · simp only [wipe_sh, asgT_sh]
                cases asgT m4 tg1 d1 (wipeE env2 vs1) with
                | none => rfl
                | some env3 =>
                  simp only [Option.map_some]
                  rw [frE e ok.2 C C' env3 m4 h]
                  cases evalE e C env3 m4 <;> rfl
              · generalize compL .none _ l1 m2 = r
                cases r <;> rfl
            | _ => rfl
  | .told f e, ok, C, C', env, m, h => by
    simp only [okE] at ok
    simp only [evalE]
    rw [h.told]
    cases C.told.lookup f with
    | none => rfl
    | some cl =>
      simp only
      rw [frE e ok C.inner C'.inner env m h.inner, frM_len]
      cases evalE e C.inner env m with
      | stuck => rfl
      | ok d m1 => exact gc_sh hc (r := .ok d m1)
      | exn c p m1 =>
        simp only [frR]
        rw [h.sub]
        cases toldM C.sub c cl with
        | none => rfl
        | some s => exact gc_sh hc (r := .ok (.str s) m1)
  | .anyNI e, ok, C, C', env, m, h => by
    simp only [okE] at ok
    simp only [evalE]
    rw [frE e ok C C' env m h]
    refine bindR fun x m1 => ?_
    cases x with
    | tup l =>
      simp only [D.sh, allI_sh]
      split <;> rfl
    | _ => rfl
  | .anyL e, ok, C, C', env, m, h => by
    simp only [okE] at ok
    simp only [evalE]
    rw [frE e ok C C' env m h]
    refine bindR fun x m1 => ?_
    rw [listD_sh]
    cases listD m1 x with
    | none => rfl
    | some l =>
      simp only [Option.map_some]
      rw [anyZ_sh]
      exact liftB_sh _ _ (fun _ => rfl) m1
  | .isT e, ok, C, C', env, m, h => by
    simp only [okE] at ok
    simp only [evalE]
    rw [frE e ok C C' env m h]
    refine bindR fun x m1 => ?_
    cases x <;> rfl
  | .lrev e, ok, C, C', env, m, h => by
    simp only [okE] at ok
    simp only [evalE]
    rw [frE e ok C C' env m h]
    refine bindR fun x m1 => ?_
    rw [seqD_sh]
    cases seqD m1 x with
    | none => rfl
    | some l =>
      simp only [Option.map_some]
      rw [rev_shL]
      exact newL_sh _ _
theorem frEs : ∀ (l : List IE), okEs l = true → ∀ (C C' : Ctl) (env : EnvD) (m : Mem), CtlFr m0 C C' → evalEs l C' (EnvD.sh m0.length env) (frM m0 m) = frRs m0 (evalEs l C env m)
  | [], _, C, C', env, m, h => by rw [es_nil, es_nil] <;> rfl
  | e :: l, ok, C, C', env, m, h => by
    simp only [okEs, Bool.and_eq_true] at ok
    rw [es_cons, es_cons, frE e ok.1 C C' env m h]
    refine bindRRs fun d m1 => ?_
    rw [frEs l ok.2 C C' env m1 h]
    exact bindRsRs fun ds m2 => rfl
theorem frI_ : ∀ (it : II), okI it = true → ∀ (C C' : Ctl) (env : EnvD) (m : Mem), CtlFr m0 C C' → evalI it C' (EnvD.sh m0.length env) (frM m0 m) = frI m0 (evalI it C env m)
  | .seq e, ok, C, C', env, m, h => by
    simp only [okI] at ok
    simp only [evalI]
    rw [frE e ok C C' env m h]
    exact bindRI fun x m1 => seqW_sh x m1
  | .rng1 l, ok, C, C', env, m, h => by
    simp only [okI] at ok
    simp only [evalI]
    rw [frEs l ok C C' env m h]
    exact bindRsI fun ds m1 => rngD_sh (.int 0 :: ds) m1
  | .rng l, ok, C, C', env, m, h => by
    simp only [okI] at ok
    simp only [evalI]
    rw [frEs l ok C C' env m h]
    exact bindRsI fun ds m1 => rngD_sh ds m1
  | .rev e, ok, C, C', env, m, h => by
    simp only [okI] at ok
    simp only [evalI]
    rw [frE e ok C C' env m h]
    refine bindRI fun x m1 => ?_
    rw [seqW_sh]
    refine bindII fun I m2 => ?_
    simp only [frI, rev_shL]
  | .enm e, ok, C, C', env, m, h => by
    simp only [okI] at ok
    simp only [evalI]
    rw [frE e ok C C' env m h]
    refine bindRI fun x m1 => ?_
    rw [seqW_sh]
    refine bindII fun I m2 => ?_
    simp only [frI, enm_sh]
  | .zip l, ok, C, C', env, m, h => by
    simp only [okI] at ok
    simp only [evalI]
    rw [frEs l ok C C' env m h]
    exact bindRsI fun ds m1 => zipD_sh ds m1
end
end
end Dat

/-! DatFr4 -/
set_option linter.all false
set_option maxRecDepth 100000
set_option maxHeartbeats 4000000
namespace Dat
open PySem L2
mutual
def okS : IS → Bool
  | .expr e => okE e
  | .asg _ e => okE e
  | .aug _ _ e => okE e
  | .setI o i e => okE o && (okE i && okE e)
  | .ifS c a b => okE c && (okB a && okB b)
  | .whl c b => okE c && okB b
  | .forS _ it b => okI it && okB b
  | .ret e => okE e
  | .retN => true
  | .rais _ => true
  | .pass => true
  | .brk => true
  | .cnt => true
  | .fgt _ => true
  | .set2 a b c d e f => (okE a && okE b) && ((okE c && okE d) && (okE e && okE f))
def okB : List IS → Bool
  | [] => true
  | s :: r => okS s && okB r
end
section
variable {m0 : Mem} {C C' : Ctl}
theorem outR {r : Res D} {env : EnvD} {f g : D → Mem → Out} (h : ∀ a m, g (a.sh m0.length) (frM m0 m) = frO m0 (f a m)) : (frR m0 r).out (EnvD.sh m0.length env) g = frO m0 (r.out env f) := by
  cases r with
  | ok a m => exact h a m
  | _ => rfl
theorem outI {r : Res Items} {env : EnvD} {f g : Items → Mem → Out} (h : ∀ a m, g (D.shL m0.length a.1, shO m0.length a.2) (frM m0 m) = frO m0 (f a m)) : (frI m0 r).out (EnvD.sh m0.length env) g = frO m0 (r.out env f) := by
  cases r with
  | ok a m => exact h a m
  | _ => rfl
theorem tst_sh (hc : Clo m0) {r : Res D} {env : EnvD} {n : Nat} {f g : Bool → Mem → Out} (h : ∀ b m, g b (frM m0 m) = frO m0 (f b m)) : tstO (EnvD.sh m0.length env) (frR m0 r) (m0.length + n) g = frO m0 (tstO env r n f) := by
  unfold tstO
  rw [gc_sh hc]
  refine outR fun a m => ?_
  cases a with
  | bl b => exact h b m
  | _ => rfl
theorem seq_sh {o : Out} {f g : EnvD → Mem → Out} (h : ∀ e m, g (EnvD.sh m0.length e) (frM m0 m) = frO m0 (f e m)) : (frO m0 o).seq g = frO m0 (o.seq f) := by
  cases o with
  | nx e m => exact h e m
  | _ => rfl
theorem while_sh (hc : Clo m0) {c c' : EnvD → Mem → Res D} {b b' : EnvD → Mem → Out} (h1 : ∀ e m, c' (EnvD.sh m0.length e) (frM m0 m) = frR m0 (c e m)) (h2 : ∀ e m, b' (EnvD.sh m0.length e) (frM m0 m) = frO m0 (b e m)) :
    ∀ (n : Nat) (e : EnvD) (m : Mem), whileN c' b' n (EnvD.sh m0.length e) (frM m0 m) = frO m0 (whileN c b n e m)
  | 0, _, _ => rfl
  | n + 1, e, m => by
    rw [while_succ, while_succ, h1, frM_len]
    refine tst_sh hc fun t m1 => ?_
    cases t with
    | false => rfl
    | true =>
      simp only [if_true]
      rw [h2]
      cases b e m1 with
      | nx e m2 => exact while_sh hc h1 h2 n e m2
      | ct e m2 => exact while_sh hc h1 h2 n e m2
      | _ => rfl
theorem for_sh {o : Wch} {t : Tg} {b b' : EnvD → Mem → Out} (h2 : ∀ e m, b' (EnvD.sh m0.length e) (frM m0 m) = frO m0 (b e m)) :
    ∀ (l : List D) (e : EnvD) (m : Mem), forL (shO m0.length o) t b' (D.shL m0.length l) (EnvD.sh m0.length e) (frM m0 m) = frO m0 (forL o t b l e m)
  | [], e, m => by
    simp only [D.shL, forL, chkW_sh]
    split <;> rfl
  | d :: l, e, m => by
    simp only [D.shL, forL, chkW_sh, asgT_sh]
    split
    · cases asgT m t d e with
      | none => rfl
      | some e1 =>
        simp only [Option.map_some]
        rw [h2]
        cases b e1 m with
        | nx e m2 => exact for_sh h2 l e m2
        | ct e m2 => exact for_sh h2 l e m2
        | _ => rfl
    · rfl
theorem aug_bind {r : Res D} {op : Operator} {x : D} : ((frR m0 r).bind fun y m1 => match D.sh m0.length x, y with
          | .int _, .int _ => binD op (D.sh m0.length x) y m1
          | _, _ => .stuck) = frR m0 (r.bind fun y m1 => match x, y with
          | .int _, .int _ => binD op x y m1
          | _, _ => .stuck) := by
  refine bindR fun y m1 => ?_
  cases x <;> cases y <;> first | rfl | exact binD_sh op (.int _) (.int _) m1
variable (hc : Clo m0)
include hc
mutual
theorem frS : ∀ (s : IS), okS s = true → ∀ (C C' : Ctl) (env : EnvD) (m : Mem), CtlFr m0 C C' → evalS C' s (EnvD.sh m0.length env) (frM m0 m) = frO m0 (evalS C s env m)
  | .expr e, ok, C, C', env, m, h => by
    simp only [okS] at ok
    rw [s_expr, s_expr, frE hc e ok C C' env m h, frM_len]
    have e1 : ((frR m0 (evalE e C env m)).bind fun _ m1 => (Res.ok D.non m1).gc (m0.length + m.length)) = frR m0 ((evalE e C env m).bind fun _ m1 => (Res.ok .non m1).gc m.length) := bindR fun a m1 => gc_sh hc (r := .ok .non m1)
    rw [e1]
    exact outR fun a m1 => rfl
  | .asg t e, ok, C, C', env, m, h => by
    simp only [okS] at ok
    rw [s_asg, s_asg, frE hc e ok C C' env m h, frM_len, gc_sh hc]
    refine outR fun a m1 => ?_
    rw [asgT_sh]
    cases asgT m1 t a env <;> rfl
  | .aug i op e, ok, C, C', env, m, h => by
    simp only [okS] at ok
    simp only [evalS, env_get]
    cases hi : env[i]? with
    | none => rfl
    | some o =>
      cases o with
      | none => rfl
      | some x =>
        simp only [Option.map_some]
        rw [frE hc e ok C C' env m h]
        refine (congrArg (fun r => Res.out (EnvD.sh m0.length env) r _) (aug_bind (r := evalE e C env m) (x := x) (op := op))).trans ?_
        refine outR fun z m2 => ?_
        rw [env_set] <;> rfl
  | .setI o i e, ok, C, C', env, m, h => by
    simp only [okS, Bool.and_eq_true] at ok
    simp only [evalS]
    rw [frE hc e ok.2.2 C C' env m h, frM_len]
    have e1 : ∀ (g : D → Mem → Res D) (f : D → Mem → Res D), (∀ a m, g (a.sh m0.length) (frM m0 m) = frR m0 (f a m)) → (frR m0 (evalE e C env m)).bind g = frR m0 ((evalE e C env m).bind f) := fun g f h => bindR h
    rw [e1 _ (fun v m1 => (evalE o C env m1).bind fun a m2 => (evalE i C env m2).bind fun k m3 => (setD a k v m3).bind fun _ m4 => (Res.ok .non m4).gc m.length)]
    · exact outR fun a m1 => rfl
    · intro v m1
      rw [frE hc o ok.1 C C' env m1 h]
      refine bindR fun a m2 => ?_
      rw [frE hc i ok.2.1 C C' env m2 h]
      refine bindR fun q m3 => ?_
      rw [setD_sh]
      cases setD a q v m3 with
      | ok u m4 => exact gc_sh hc (r := .ok .non m4)
      | _ => rfl
  | .ifS c a b, ok, C, C', env, m, h => by
    simp only [okS, Bool.and_eq_true] at ok
    rw [s_if, s_if, frE hc c ok.1 C C' env m h, frM_len]
    refine tst_sh hc fun t m1 => ?_
    cases t with
    | true => exact frB a ok.2.1 C C' env m1 h
    | false => exact frB b ok.2.2 C C' env m1 h
  | .whl c b, ok, C, C', env, m, h => by
    simp only [okS, Bool.and_eq_true] at ok
    rw [s_whl, s_whl, h.turns]
    exact while_sh hc (fun e m => frE hc c ok.1 C C' e m h) (fun e m => frB b ok.2 C C' e m h) _ _ _
  | .forS t it b, ok, C, C', env, m, h => by
    simp only [okS, Bool.and_eq_true] at ok
    rw [s_for, s_for, frI_ hc it ok.1 C C' env m h]
    exact outI fun I m1 => for_sh (fun e m => frB b ok.2 C C' e m h) I.1 env m1
  | .ret e, ok, C, C', env, m, h => by
    simp only [okS] at ok
    rw [s_ret, s_ret, frE hc e ok C C' env m h]
    exact outR fun a m1 => rfl
  | .retN, _, C, C', env, m, h => by simp only [evalS]; rfl
  | .rais c, _, C, C', env, m, h => by simp only [evalS]; rfl
  | .pass, _, C, C', env, m, h => by simp only [evalS]; rfl
  | .brk, _, C, C', env, m, h => by simp only [evalS]; rfl
  | .cnt, _, C, C', env, m, h => by simp only [evalS]; rfl
  | .set2 o1 i1 o2 i2 e1 e2, ok, C, C', env, m, h => by
    simp only [okS, Bool.and_eq_true] at ok
    simp only [evalS]
    rw [frE hc e1 ok.2.2.1 C C' env m h, frM_len]
    refine (congrArg (fun r => Res.out (EnvD.sh m0.length env) r _) (bindR (f := fun v1 m1 => (evalE e2 C env m1).bind fun v2 m2 => (evalE o1 C env m2).bind fun a m3 => (evalE i1 C env m3).bind fun k m4 => (setD a k v1 m4).bind fun _ m5 =>
      (evalE o2 C env m5).bind fun b m6 => (evalE i2 C env m6).bind fun j m7 => (setD b j v2 m7).bind fun _ m8 => (Res.ok .non m8).gc m.length) (fun v1 m1 => ?_))).trans (outR fun a m1 => rfl)
    rw [frE hc e2 ok.2.2.2 C C' env m1 h]
    refine bindR fun v2 m2 => ?_
    rw [frE hc o1 ok.1.1 C C' env m2 h]
    refine bindR fun a m3 => ?_
    rw [frE hc i1 ok.1.2 C C' env m3 h]
    refine bindR fun k m4 => ?_
    rw [setD_sh]
    cases setD a k v1 m4 with
    | stuck => rfl
    | exn _ _ _ => rfl
    | ok u m5 =>
      simp only [frU, Res.bind]
      rw [frE hc o2 ok.2.1.1 C C' env m5 h]
      refine bindR fun b m6 => ?_
      rw [frE hc i2 ok.2.1.2 C C' env m6 h]
      refine bindR fun j m7 => ?_
      rw [setD_sh]
      cases setD b j v2 m7 with
      | ok u m8 => exact gc_sh hc (r := .ok .non m8)
      | _ => rfl
  | .fgt vs, _, C, C', env, m, h => by
    simp only [evalS, wipe_sh]
    rfl
theorem frB : ∀ (l : List IS), okB l = true → ∀ (C C' : Ctl) (env : EnvD) (m : Mem), CtlFr m0 C C' → evalB C' l (EnvD.sh m0.length env) (frM m0 m) = frO m0 (evalB C l env m)
  | [], _, C, C', env, m, h => by rw [b_nil, b_nil] <;> rfl
  | s :: r, ok, C, C', env, m, h => by
    simp only [okB, Bool.and_eq_true] at ok
    rw [b_cons, b_cons, frS s ok.1 C C' env m h]
    exact seq_sh fun e m1 => frB r ok.2 C C' e m1 h
end
omit hc
theorem startE_sh (k np nn : Nat) (ds : List D) : startE np nn (D.shL k ds) = EnvD.sh k (startE np nn ds) := by
  unfold startE EnvD.sh
  rw [shL_map, List.map_append, List.map_map, List.map_map, List.map_replicate]
  rfl
def okP (P : Prog) : Bool := P.fns.all fun f => okB f.body
theorem run_sh (hc : Clo m0) {P : Prog} (ok : okP P = true) : ∀ (n f : Nat) (ds : List D) (m : Mem), runF P n f (D.shL m0.length ds) (frM m0 m) = frR m0 (runF P n f ds m) := by
  intro n
  induction n using Nat.strongRecOn with
  | _ n ih =>
  intro f ds m
  cases n with
  | zero => rfl
  | succ n =>
    rw [runF_succ]
    unfold stepF
    cases hf : P.fns[f]? with
    | none => rfl
    | some fi =>
      have okf : okB fi.body = true := List.all_eq_true.mp ok _ (List.mem_of_getElem? hf)
      have fr : CtlFr m0 (P.ctl (runF P n) (runF P (n - 2)) n) (P.ctl (runF P n) (runF P (n - 2)) n) := ⟨fun f ds m => ih n (by omega) f ds m, fun f ds m => ih (n - 2) (by omega) f ds m, rfl, rfl, rfl⟩
      simp only
      unfold bodyF
      rw [shL_len]
      split
      · rw [startE_sh, frB hc fi.body okf _ _ _ _ fr, frM_len]
        cases evalB (P.ctl (runF P n) (runF P (n - 2)) n) fi.body (startE fi.np fi.nn ds) m with
        | rt d m1 => exact gc_sh hc (r := .ok d m1)
        | nx e m1 => exact gc_sh hc (r := .ok .non m1)
        | exn c p e m1 => rfl
        | bk _ _ => rfl
        | ct _ _ => rfl
        | stuck => rfl
      · rfl
/-- a closed call, beside any closed memory -/
theorem run_at (hc : Clo m0) {P : Prog} (ok : okP P = true) {n f : Nat} {ds : List D} {v : D} (hd : D.undrL 0 ds = true) (h : runF P n f ds [] = .ok v []) (hv : D.undr 0 v = true) : runF P n f ds m0 = .ok v m0 := by
  have e := run_sh hc ok n f ds []
  rw [shL_con ds hd, h] at e
  simpa [frR, frM, sh_con v hv] using e
theorem run_exn (hc : Clo m0) {P : Prog} (ok : okP P = true) {n f : Nat} {ds : List D} {c : Str} (hd : D.undrL 0 ds = true) (h : runF P n f ds [] = .exn c none []) : runF P n f ds m0 = .exn c none m0 := by
  have e := run_sh hc ok n f ds []
  rw [shL_con ds hd, h] at e
  simpa [frR, frM] using e
end
end Dat

/-! Dat20 -/
set_option linter.all false
set_option maxRecDepth 100000
set_option maxHeartbeats 4000000
set_option exponentiation.threshold 10000
/-! Dat20: parts (rational numbers as pairs), as every law has them. -/
namespace Dat
open PySem L2
def irShared : List IS := [(.whl (.cmp .NotEq (.var 1) (.con (.int 0))) [(.asg (.tup [(.var 0), (.var 1)]) (.tup [(.var 1), (.bin .Mod (.var 0) (.var 1))]))]), (.ret (.blt .abs [(.var 0)]))]
def irMade (iS : Nat) : List IS := [(.ifS (.cmp .Eq (.var 1) (.con (.int 0))) [(.rais "BadNumber")] []), (.ifS (.cmp .Lt (.var 1) (.con (.int 0))) [(.asg (.tup [(.var 0), (.var 1)]) (.tup [(.neg (.var 0)), (.neg (.var 1))]))] []), (.asg (.var 2) (.call iS [(.var 0), (.var 1)])), (.ret (.tup [(.bin .FloorDiv (.var 0) (.var 2)), (.bin .FloorDiv (.var 1) (.var 2))]))]
abbrev prt (v i : Nat) : IE := .idx (.var v) (.con (.int i))
def irAdd (iM : Nat) : List IS := [(.ret (.call iM [(.bin .Add (.bin .Mult (.idx (.var 0) (.con (.int 0))) (.idx (.var 1) (.con (.int 1)))) (.bin .Mult (.idx (.var 1) (.con (.int 0))) (.idx (.var 0) (.con (.int 1))))), (.bin .Mult (.idx (.var 0) (.con (.int 1))) (.idx (.var 1) (.con (.int 1))))]))]
def irLess (iM : Nat) : List IS := [(.ret (.call iM [(.bin .Sub (.bin .Mult (.idx (.var 0) (.con (.int 0))) (.idx (.var 1) (.con (.int 1)))) (.bin .Mult (.idx (.var 1) (.con (.int 0))) (.idx (.var 0) (.con (.int 1))))), (.bin .Mult (.idx (.var 0) (.con (.int 1))) (.idx (.var 1) (.con (.int 1))))]))]
def irTimes (iM : Nat) : List IS := [(.ret (.call iM [(.bin .Mult (.idx (.var 0) (.con (.int 0))) (.idx (.var 1) (.con (.int 0)))), (.bin .Mult (.idx (.var 0) (.con (.int 1))) (.idx (.var 1) (.con (.int 1))))]))]
def irOver (iM : Nat) : List IS := [(.ret (.call iM [(.bin .Mult (.idx (.var 0) (.con (.int 0))) (.idx (.var 1) (.con (.int 1)))), (.bin .Mult (.idx (.var 0) (.con (.int 1))) (.idx (.var 1) (.con (.int 0))))]))]
def irFloor : List IS := [(.ret (.bin .FloorDiv (.idx (.var 0) (.con (.int 0))) (.idx (.var 0) (.con (.int 1)))))]
/-- the turns that a loop may take -/
abbrev big : Nat := 2 ^ 4096
theorem runF_at {P : Prog} {n i : Nat} {fi : FnI} {ds : List D} {m : Mem} (h : P.fns[i]? = some fi) (hl : ds.length = fi.np) : runF P (n + 1) i ds m = finF m.length (evalB (P.ctl (runF P n) (runF P (n - 2)) n) fi.body (startE fi.np fi.nn ds) m) := by
  rw [runF_succ]
  unfold stepF
  rw [h]
  exact body_eq hl
structure PartsOk (P : Prog) (iS iM : Nat) : Prop where
  sh : P.fns[iS]? = some ⟨2, 2, irShared⟩
  md : P.fns[iM]? = some ⟨2, 3, irMade iS⟩
  tn : P.turns = 2 ^ 4096
def encQ (q : Rat) : D := .tup [.int q.num, .int q.den]
/-- small enough for every guard -/
def Sz (q : Rat) : Prop := q.num.natAbs < 2 ^ 2000 ∧ q.den < 2 ^ 2000
theorem log2_lt {a k : Nat} (h : a < 2 ^ k) (h0 : a ≠ 0) : a.log2 < k := (Nat.log2_lt h0).mpr h
theorem mulG_of {i j : Int} {p q : Nat} (hi : i.natAbs < 2 ^ p) (hj : j.natAbs < 2 ^ q) (h : p + q ≤ 134217728) : MulG i j := by
  have bits : ∀ {x : Int} {k : Nat}, x.natAbs < 2 ^ k → (Builtin.Int.intBits x : Int) ≤ k := fun {x k} hx => by
    unfold Builtin.Int.intBits
    split
    · omega
    · rename_i h0
      have : x.natAbs ≠ 0 := fun z => h0 (by simpa using z)
      have := log2_lt hx this
      omega
  have h1 := bits hi
  have h2 := bits hj
  unfold MulG
  omega
theorem divG_of {i j : Int} (h0 : j ≠ 0) (hj : j.natAbs < 2 ^ 9000) : DivG i j := by
  refine ⟨h0, ?_⟩
  unfold Builtin.divisionGoesByPylong
  simp only [Bool.and_eq_false_iff, decide_eq_false_iff_not]
  left
  split
  · omega
  · rename_i h1
    have : j.natAbs ≠ 0 := by omega
    have := log2_lt hj this
    omega
section
variable {P : Prog} {iS iM : Nat} {n : Nat} {m : Mem}
theorem shared_ok (hP : PartsOk P iS iM) {a b : Int} (hb : b.natAbs < 2 ^ 4096) : runF P (n + 1) iS [.int a, .int b] m = .ok (.int (Int.gcd a b)) m := by
  rw [runF_at hP.sh rfl]
  have loop : ∀ (C : Ctl) (k : Nat) (a b : Int), b.natAbs < k → ∃ a' : Int, (a'.natAbs : Int) = Int.gcd a b ∧ whileN (fun e m1 => evalE (.cmp .NotEq (.var 1) (.con (.int 0))) C e m1) (fun e m1 => evalB C [(.asg (.tup [(.var 0), (.var 1)]) (.tup [(.var 1), (.bin .Mod (.var 0) (.var 1))]))] e m1) k [some (.int a), some (.int b)] m = .nx [some (.int a'), some (.int 0)] m := by
    intro C k
    induction k with
    | zero => intro a b h; omega
    | succ k ih =>
      intro a b h
      rw [while_succ]
      by_cases h0 : b = 0
      · subst h0
        refine ⟨a, by simp, ?_⟩
        simp only [fin_rt, fin_nx, fin_exn, seq_nx, seq_rt, seq_exn, seq_bk, seq_ct, bind_ok, bind_exn, out_ok, out_exn, tst_ok, tst_exn, gc_ok_, gc_exn, gcM_same, asB_bl, selB_t, selB_f, selE_t, selE_f, rdV_some, stT_some, e_var, e_con, e_glo, e_nop, t_bin, t_neg, t_not, t_cmp, t_cmp2, cmp2T_t, cmp2T_f, t_and, t_or, t_if, t_idx, t_tup, t_lst, t_call, t_blt, t_mth, mthT_t, es_nil, ts_cons, b_nil, tb_cons, ts_asg, ts_expr, ts_if, ts_ret, s_rais, seqT_nx, seqT_rt, seqT_exn, seqT_bk, seqT_ct, bindT_ok, bindT_exn, outT_ok, outT_exn, tstT_ok, tstT_exn, asBT_bl, c_eqI, c_neI, c_ltI, c_leI, c_gtI, c_geI, o_addI, o_subI, n_I, abs_N, ix_tup, lift_some, at0, at1, at2, at3, asT_var, asT_tup, asTs_nil, asTs_cons, ctl_call, List.getElem?_cons_zero, List.getElem?_cons_succ, List.set_cons_zero, List.set_cons_succ, List.length_cons, List.length_nil, List.map_cons, List.map_nil, List.cons_append, List.nil_append, List.replicate_succ, List.replicate_zero, Nat.reduceAdd, Nat.reduceSub, Nat.reduceLT, Nat.reduceLeDiff, sz, Option.bind_some, Option.bind_none, Option.map_some, Bool.false_eq_true, if_true, if_false, reduceIte, Nat.zero_add, startE, Bool.not_true, Bool.not_false, decide_true, decide_false]
      · have h1 := fmod_lt a b h0
        obtain ⟨a', e1, e2⟩ := ih b (a.fmod b) (by omega)
        refine ⟨a', by rw [e1, gcd_step], ?_⟩
        rw [← e2]
        simp only [fin_rt, fin_nx, fin_exn, seq_nx, seq_rt, seq_exn, seq_bk, seq_ct, bind_ok, bind_exn, out_ok, out_exn, tst_ok, tst_exn, gc_ok_, gc_exn, gcM_same, asB_bl, selB_t, selB_f, selE_t, selE_f, rdV_some, stT_some, e_var, e_con, e_glo, e_nop, t_bin, t_neg, t_not, t_cmp, t_cmp2, cmp2T_t, cmp2T_f, t_and, t_or, t_if, t_idx, t_tup, t_lst, t_call, t_blt, t_mth, mthT_t, es_nil, ts_cons, b_nil, tb_cons, ts_asg, ts_expr, ts_if, ts_ret, s_rais, seqT_nx, seqT_rt, seqT_exn, seqT_bk, seqT_ct, bindT_ok, bindT_exn, outT_ok, outT_exn, tstT_ok, tstT_exn, asBT_bl, c_eqI, c_neI, c_ltI, c_leI, c_gtI, c_geI, o_addI, o_subI, n_I, abs_N, ix_tup, lift_some, at0, at1, at2, at3, asT_var, asT_tup, asTs_nil, asTs_cons, ctl_call, List.getElem?_cons_zero, List.getElem?_cons_succ, List.set_cons_zero, List.set_cons_succ, List.length_cons, List.length_nil, List.map_cons, List.map_nil, List.cons_append, List.nil_append, List.replicate_succ, List.replicate_zero, Nat.reduceAdd, Nat.reduceSub, Nat.reduceLT, Nat.reduceLeDiff, sz, Option.bind_some, Option.bind_none, Option.map_some, Bool.false_eq_true, if_true, if_false, reduceIte, Nat.zero_add, startE, Bool.not_true, Bool.not_false, decide_true, decide_false, h0, o_modI h0]
  obtain ⟨a', e1, e2⟩ := loop (P.ctl (runF P n) (runF P (n - 2)) n) (2 ^ 4096) a b hb
  have e3 : evalS (P.ctl (runF P n) (runF P (n - 2)) n) (.whl (.cmp .NotEq (.var 1) (.con (.int 0))) [(.asg (.tup [(.var 0), (.var 1)]) (.tup [(.var 1), (.bin .Mod (.var 0) (.var 1))]))]) [some (.int a), some (.int b)] m = .nx [some (.int a'), some (.int 0)] m := by
    rw [s_whl]
    have e4 : (P.ctl (runF P n) (runF P (n - 2)) n).turns = 2 ^ 4096 := hP.tn
    rw [e4]
    exact e2
  simp only [fin_rt, fin_nx, fin_exn, seq_nx, seq_rt, seq_exn, seq_bk, seq_ct, bind_ok, bind_exn, out_ok, out_exn, tst_ok, tst_exn, gc_ok_, gc_exn, gcM_same, asB_bl, selB_t, selB_f, selE_t, selE_f, rdV_some, stT_some, e_var, e_con, e_glo, e_nop, t_bin, t_neg, t_not, t_cmp, t_cmp2, cmp2T_t, cmp2T_f, t_and, t_or, t_if, t_idx, t_tup, t_lst, t_call, t_blt, t_mth, mthT_t, es_nil, ts_cons, b_nil, tb_cons, ts_asg, ts_expr, ts_if, ts_ret, s_rais, seqT_nx, seqT_rt, seqT_exn, seqT_bk, seqT_ct, bindT_ok, bindT_exn, outT_ok, outT_exn, tstT_ok, tstT_exn, asBT_bl, c_eqI, c_neI, c_ltI, c_leI, c_gtI, c_geI, o_addI, o_subI, n_I, abs_N, ix_tup, lift_some, at0, at1, at2, at3, asT_var, asT_tup, asTs_nil, asTs_cons, ctl_call, List.getElem?_cons_zero, List.getElem?_cons_succ, List.set_cons_zero, List.set_cons_succ, List.length_cons, List.length_nil, List.map_cons, List.map_nil, List.cons_append, List.nil_append, List.replicate_succ, List.replicate_zero, Nat.reduceAdd, Nat.reduceSub, Nat.reduceLT, Nat.reduceLeDiff, sz, Option.bind_some, Option.bind_none, Option.map_some, Bool.false_eq_true, if_true, if_false, reduceIte, Nat.zero_add, startE, Bool.not_true, Bool.not_false, decide_true, decide_false, irShared, e3, e1]
theorem made_ok (hP : PartsOk P iS iM) {t b : Int} (hb : b ≠ 0) (h2 : b.natAbs < 2 ^ 4096) : runF P (n + 2) iM [.int t, .int b] m = .ok (encQ (Rat.divInt t b)) m := by
  rw [runF_at hP.md rfl]
  have h3 : (-b).natAbs < 2 ^ 4096 := by rwa [Int.natAbs_neg]
  have g0 : Int.gcd t b ≠ 0 := fun z => hb (Int.gcd_eq_zero_iff.mp z).2
  have gl : Int.gcd t b < 2 ^ 4096 := Nat.lt_of_le_of_lt (Int.gcd_le_natAbs_right t hb) h2
  have gp : (0 : Int) ≤ (Int.gcd t b : Int) := Int.natCast_nonneg _
  have gD : ∀ x : Int, DivG x (Int.gcd t b : Int) := fun x => divG_of (by omega) (by
    rw [Int.natAbs_natCast]
    exact Nat.lt_of_lt_of_le gl (Nat.pow_le_pow_right (by decide) (by decide)))
  have fin : ∀ s : Int, s = b.sign → (Res.ok (D.tup [.int ((s * t).fdiv (Int.gcd t b)), .int ((s * b).fdiv (Int.gcd t b))]) m : Res D) = .ok (encQ (Rat.divInt t b)) m := fun s hs => by
    unfold encQ
    rw [Rat.num_divInt, Rat.den_divInt, if_neg hb, Int.fdiv_eq_ediv_of_nonneg _ gp, Int.fdiv_eq_ediv_of_nonneg _ gp, hs, Int.gcd_comm b t]
    congr 5
    rw [Int.natCast_ediv, Int.sign_mul_self]
  by_cases h1 : b < 0
  · have e : b.sign = -1 := Int.sign_eq_neg_one_of_neg h1
    have gn : Int.gcd (-t) (-b) = Int.gcd t b := by rw [Int.neg_gcd, Int.gcd_neg]
    have f := fin (-1) e.symm
    rw [Int.neg_one_mul, Int.neg_one_mul] at f
    simp only [fin_rt, fin_nx, fin_exn, seq_nx, seq_rt, seq_exn, seq_bk, seq_ct, bind_ok, bind_exn, out_ok, out_exn, tst_ok, tst_exn, gc_ok_, gc_exn, gcM_same, asB_bl, selB_t, selB_f, selE_t, selE_f, rdV_some, stT_some, e_var, e_con, e_glo, e_nop, t_bin, t_neg, t_not, t_cmp, t_cmp2, cmp2T_t, cmp2T_f, t_and, t_or, t_if, t_idx, t_tup, t_lst, t_call, t_blt, t_mth, mthT_t, es_nil, ts_cons, b_nil, tb_cons, ts_asg, ts_expr, ts_if, ts_ret, s_rais, seqT_nx, seqT_rt, seqT_exn, seqT_bk, seqT_ct, bindT_ok, bindT_exn, outT_ok, outT_exn, tstT_ok, tstT_exn, asBT_bl, c_eqI, c_neI, c_ltI, c_leI, c_gtI, c_geI, o_addI, o_subI, n_I, abs_N, ix_tup, lift_some, at0, at1, at2, at3, asT_var, asT_tup, asTs_nil, asTs_cons, ctl_call, List.getElem?_cons_zero, List.getElem?_cons_succ, List.set_cons_zero, List.set_cons_succ, List.length_cons, List.length_nil, List.map_cons, List.map_nil, List.cons_append, List.nil_append, List.replicate_succ, List.replicate_zero, Nat.reduceAdd, Nat.reduceSub, Nat.reduceLT, Nat.reduceLeDiff, sz, Option.bind_some, Option.bind_none, Option.map_some, Bool.false_eq_true, if_true, if_false, reduceIte, Nat.zero_add, startE, Bool.not_true, Bool.not_false, decide_true, decide_false, irMade, hb, h1, shared_ok hP h3, gn, o_divI (gD _)]
    exact f
  · have e : b.sign = 1 := Int.sign_eq_one_of_pos (by omega)
    have f := fin 1 e.symm
    rw [Int.one_mul, Int.one_mul] at f
    simp only [fin_rt, fin_nx, fin_exn, seq_nx, seq_rt, seq_exn, seq_bk, seq_ct, bind_ok, bind_exn, out_ok, out_exn, tst_ok, tst_exn, gc_ok_, gc_exn, gcM_same, asB_bl, selB_t, selB_f, selE_t, selE_f, rdV_some, stT_some, e_var, e_con, e_glo, e_nop, t_bin, t_neg, t_not, t_cmp, t_cmp2, cmp2T_t, cmp2T_f, t_and, t_or, t_if, t_idx, t_tup, t_lst, t_call, t_blt, t_mth, mthT_t, es_nil, ts_cons, b_nil, tb_cons, ts_asg, ts_expr, ts_if, ts_ret, s_rais, seqT_nx, seqT_rt, seqT_exn, seqT_bk, seqT_ct, bindT_ok, bindT_exn, outT_ok, outT_exn, tstT_ok, tstT_exn, asBT_bl, c_eqI, c_neI, c_ltI, c_leI, c_gtI, c_geI, o_addI, o_subI, n_I, abs_N, ix_tup, lift_some, at0, at1, at2, at3, asT_var, asT_tup, asTs_nil, asTs_cons, ctl_call, List.getElem?_cons_zero, List.getElem?_cons_succ, List.set_cons_zero, List.set_cons_succ, List.length_cons, List.length_nil, List.map_cons, List.map_nil, List.cons_append, List.nil_append, List.replicate_succ, List.replicate_zero, Nat.reduceAdd, Nat.reduceSub, Nat.reduceLT, Nat.reduceLeDiff, sz, Option.bind_some, Option.bind_none, Option.map_some, Bool.false_eq_true, if_true, if_false, reduceIte, Nat.zero_add, startE, Bool.not_true, Bool.not_false, decide_true, decide_false, irMade, hb, h1, shared_ok hP h2, o_divI (gD _)]
    exact f
theorem made_exn (hP : PartsOk P iS iM) {t : Int} : runF P (n + 2) iM [.int t, .int 0] m = .exn "BadNumber" none m := by
  rw [runF_at hP.md rfl]
  simp only [fin_rt, fin_nx, fin_exn, seq_nx, seq_rt, seq_exn, seq_bk, seq_ct, bind_ok, bind_exn, out_ok, out_exn, tst_ok, tst_exn, gc_ok_, gc_exn, gcM_same, asB_bl, selB_t, selB_f, selE_t, selE_f, rdV_some, stT_some, e_var, e_con, e_glo, e_nop, t_bin, t_neg, t_not, t_cmp, t_cmp2, cmp2T_t, cmp2T_f, t_and, t_or, t_if, t_idx, t_tup, t_lst, t_call, t_blt, t_mth, mthT_t, es_nil, ts_cons, b_nil, tb_cons, ts_asg, ts_expr, ts_if, ts_ret, s_rais, seqT_nx, seqT_rt, seqT_exn, seqT_bk, seqT_ct, bindT_ok, bindT_exn, outT_ok, outT_exn, tstT_ok, tstT_exn, asBT_bl, c_eqI, c_neI, c_ltI, c_leI, c_gtI, c_geI, o_addI, o_subI, n_I, abs_N, ix_tup, lift_some, at0, at1, at2, at3, asT_var, asT_tup, asTs_nil, asTs_cons, ctl_call, List.getElem?_cons_zero, List.getElem?_cons_succ, List.set_cons_zero, List.set_cons_succ, List.length_cons, List.length_nil, List.map_cons, List.map_nil, List.cons_append, List.nil_append, List.replicate_succ, List.replicate_zero, Nat.reduceAdd, Nat.reduceSub, Nat.reduceLT, Nat.reduceLeDiff, sz, Option.bind_some, Option.bind_none, Option.map_some, Bool.false_eq_true, if_true, if_false, reduceIte, Nat.zero_add, startE, Bool.not_true, Bool.not_false, decide_true, decide_false, irMade]
theorem Sz.num {q : Rat} (h : Sz q) : q.num.natAbs < 2 ^ 2000 := h.1
theorem Sz.den {q : Rat} (h : Sz q) : (q.den : Int).natAbs < 2 ^ 2000 := by rw [Int.natAbs_natCast]; exact h.2
theorem mul_lt {a b : Int} (ha : a.natAbs < 2 ^ 2000) (hb : b.natAbs < 2 ^ 2000) : (a * b).natAbs < 2 ^ 4096 := by
  rw [Int.natAbs_mul]
  have : a.natAbs * b.natAbs < 2 ^ 2000 * 2 ^ 2000 := Nat.mul_lt_mul'' ha hb
  refine Nat.lt_trans this ?_
  decide +kernel
theorem mg {a b : Int} (ha : a.natAbs < 2 ^ 2000) (hb : b.natAbs < 2 ^ 2000) : MulG a b := mulG_of ha hb (by decide)
theorem enc_0 {q : Rat} : atI [D.int q.num, D.int q.den] 0 = some (.int q.num) := by rw [at0] <;> rfl
theorem enc_1 {q : Rat} : atI [D.int q.num, D.int q.den] 1 = some (.int q.den) := by rw [at1] <;> rfl
theorem den_ne (q : Rat) : (q.den : Int) ≠ 0 := by
  have := q.den_nz
  omega
theorem add_ok (hP : PartsOk P iS iM) {f : Nat} (hf : P.fns[f]? = some ⟨2, 2, irAdd iM⟩) {p q : Rat} (hp : Sz p) (hq : Sz q) : runF P (n + 3) f [encQ p, encQ q] m = .ok (encQ (p + q)) m := by
  rw [runF_at hf rfl]
  have hb : (p.den : Int) * q.den ≠ 0 := Int.mul_ne_zero (den_ne p) (den_ne q)
  have e : p + q = Rat.divInt (p.num * q.den + q.num * p.den) ((p.den : Int) * q.den) := by
    rw [Rat.add_def', ← Rat.divInt_ofNat]
    simp
  rw [e]
  simp only [fin_rt, fin_nx, fin_exn, seq_nx, seq_rt, seq_exn, seq_bk, seq_ct, bind_ok, bind_exn, out_ok, out_exn, tst_ok, tst_exn, gc_ok_, gc_exn, gcM_same, asB_bl, selB_t, selB_f, selE_t, selE_f, rdV_some, stT_some, e_var, e_con, e_glo, e_nop, t_bin, t_neg, t_not, t_cmp, t_cmp2, cmp2T_t, cmp2T_f, t_and, t_or, t_if, t_idx, t_tup, t_lst, t_call, t_blt, t_mth, mthT_t, es_nil, ts_cons, b_nil, tb_cons, ts_asg, ts_expr, ts_if, ts_ret, s_rais, seqT_nx, seqT_rt, seqT_exn, seqT_bk, seqT_ct, bindT_ok, bindT_exn, outT_ok, outT_exn, tstT_ok, tstT_exn, asBT_bl, c_eqI, c_neI, c_ltI, c_leI, c_gtI, c_geI, o_addI, o_subI, n_I, abs_N, ix_tup, lift_some, at0, at1, at2, at3, asT_var, asT_tup, asTs_nil, asTs_cons, ctl_call, List.getElem?_cons_zero, List.getElem?_cons_succ, List.set_cons_zero, List.set_cons_succ, List.length_cons, List.length_nil, List.map_cons, List.map_nil, List.cons_append, List.nil_append, List.replicate_succ, List.replicate_zero, Nat.reduceAdd, Nat.reduceSub, Nat.reduceLT, Nat.reduceLeDiff, sz, Option.bind_some, Option.bind_none, Option.map_some, Bool.false_eq_true, if_true, if_false, reduceIte, Nat.zero_add, startE, Bool.not_true, Bool.not_false, decide_true, decide_false, irAdd, encQ, o_mulI (mg hp.num hq.den), o_mulI (mg hq.num hp.den), o_mulI (mg hp.den hq.den), made_ok hP hb (mul_lt hp.den hq.den)]
theorem less_ok (hP : PartsOk P iS iM) {f : Nat} (hf : P.fns[f]? = some ⟨2, 2, irLess iM⟩) {p q : Rat} (hp : Sz p) (hq : Sz q) : runF P (n + 3) f [encQ p, encQ q] m = .ok (encQ (p - q)) m := by
  rw [runF_at hf rfl]
  have hb : (p.den : Int) * q.den ≠ 0 := Int.mul_ne_zero (den_ne p) (den_ne q)
  have e : p - q = Rat.divInt (p.num * q.den - q.num * p.den) ((p.den : Int) * q.den) := by
    rw [Rat.sub_def', ← Rat.divInt_ofNat]
    simp
  rw [e]
  simp only [fin_rt, fin_nx, fin_exn, seq_nx, seq_rt, seq_exn, seq_bk, seq_ct, bind_ok, bind_exn, out_ok, out_exn, tst_ok, tst_exn, gc_ok_, gc_exn, gcM_same, asB_bl, selB_t, selB_f, selE_t, selE_f, rdV_some, stT_some, e_var, e_con, e_glo, e_nop, t_bin, t_neg, t_not, t_cmp, t_cmp2, cmp2T_t, cmp2T_f, t_and, t_or, t_if, t_idx, t_tup, t_lst, t_call, t_blt, t_mth, mthT_t, es_nil, ts_cons, b_nil, tb_cons, ts_asg, ts_expr, ts_if, ts_ret, s_rais, seqT_nx, seqT_rt, seqT_exn, seqT_bk, seqT_ct, bindT_ok, bindT_exn, outT_ok, outT_exn, tstT_ok, tstT_exn, asBT_bl, c_eqI, c_neI, c_ltI, c_leI, c_gtI, c_geI, o_addI, o_subI, n_I, abs_N, ix_tup, lift_some, at0, at1, at2, at3, asT_var, asT_tup, asTs_nil, asTs_cons, ctl_call, List.getElem?_cons_zero, List.getElem?_cons_succ, List.set_cons_zero, List.set_cons_succ, List.length_cons, List.length_nil, List.map_cons, List.map_nil, List.cons_append, List.nil_append, List.replicate_succ, List.replicate_zero, Nat.reduceAdd, Nat.reduceSub, Nat.reduceLT, Nat.reduceLeDiff, sz, Option.bind_some, Option.bind_none, Option.map_some, Bool.false_eq_true, if_true, if_false, reduceIte, Nat.zero_add, startE, Bool.not_true, Bool.not_false, decide_true, decide_false, irLess, encQ, o_mulI (mg hp.num hq.den), o_mulI (mg hq.num hp.den), o_mulI (mg hp.den hq.den), made_ok hP hb (mul_lt hp.den hq.den)]
theorem times_ok (hP : PartsOk P iS iM) {f : Nat} (hf : P.fns[f]? = some ⟨2, 2, irTimes iM⟩) {p q : Rat} (hp : Sz p) (hq : Sz q) : runF P (n + 3) f [encQ p, encQ q] m = .ok (encQ (p * q)) m := by
  rw [runF_at hf rfl]
  have hb : (p.den : Int) * q.den ≠ 0 := Int.mul_ne_zero (den_ne p) (den_ne q)
  have e : p * q = Rat.divInt (p.num * q.num) ((p.den : Int) * q.den) := by
    rw [Rat.mul_def', ← Rat.divInt_ofNat]
    simp
  rw [e]
  simp only [fin_rt, fin_nx, fin_exn, seq_nx, seq_rt, seq_exn, seq_bk, seq_ct, bind_ok, bind_exn, out_ok, out_exn, tst_ok, tst_exn, gc_ok_, gc_exn, gcM_same, asB_bl, selB_t, selB_f, selE_t, selE_f, rdV_some, stT_some, e_var, e_con, e_glo, e_nop, t_bin, t_neg, t_not, t_cmp, t_cmp2, cmp2T_t, cmp2T_f, t_and, t_or, t_if, t_idx, t_tup, t_lst, t_call, t_blt, t_mth, mthT_t, es_nil, ts_cons, b_nil, tb_cons, ts_asg, ts_expr, ts_if, ts_ret, s_rais, seqT_nx, seqT_rt, seqT_exn, seqT_bk, seqT_ct, bindT_ok, bindT_exn, outT_ok, outT_exn, tstT_ok, tstT_exn, asBT_bl, c_eqI, c_neI, c_ltI, c_leI, c_gtI, c_geI, o_addI, o_subI, n_I, abs_N, ix_tup, lift_some, at0, at1, at2, at3, asT_var, asT_tup, asTs_nil, asTs_cons, ctl_call, List.getElem?_cons_zero, List.getElem?_cons_succ, List.set_cons_zero, List.set_cons_succ, List.length_cons, List.length_nil, List.map_cons, List.map_nil, List.cons_append, List.nil_append, List.replicate_succ, List.replicate_zero, Nat.reduceAdd, Nat.reduceSub, Nat.reduceLT, Nat.reduceLeDiff, sz, Option.bind_some, Option.bind_none, Option.map_some, Bool.false_eq_true, if_true, if_false, reduceIte, Nat.zero_add, startE, Bool.not_true, Bool.not_false, decide_true, decide_false, irTimes, encQ, o_mulI (mg hp.num hq.num), o_mulI (mg hp.den hq.den), made_ok hP hb (mul_lt hp.den hq.den)]
theorem over_ok (hP : PartsOk P iS iM) {f : Nat} (hf : P.fns[f]? = some ⟨2, 2, irOver iM⟩) {p q : Rat} (hp : Sz p) (hq : Sz q) (h0 : q ≠ 0) : runF P (n + 3) f [encQ p, encQ q] m = .ok (encQ (p / q)) m := by
  rw [runF_at hf rfl]
  have hn : q.num ≠ 0 := fun z => h0 (Rat.num_eq_zero.mp z)
  have hb : (p.den : Int) * q.num ≠ 0 := Int.mul_ne_zero (den_ne p) hn
  have e : p / q = Rat.divInt (p.num * q.den) ((p.den : Int) * q.num) := by
    have h1 : p = Rat.divInt p.num p.den := (Rat.num_divInt_den p).symm
    have h2 : q = Rat.divInt q.num q.den := (Rat.num_divInt_den q).symm
    conv => lhs; rw [h1, h2]
    rw [Rat.div_def, Rat.inv_divInt, Rat.divInt_mul_divInt]
  rw [e]
  simp only [fin_rt, fin_nx, fin_exn, seq_nx, seq_rt, seq_exn, seq_bk, seq_ct, bind_ok, bind_exn, out_ok, out_exn, tst_ok, tst_exn, gc_ok_, gc_exn, gcM_same, asB_bl, selB_t, selB_f, selE_t, selE_f, rdV_some, stT_some, e_var, e_con, e_glo, e_nop, t_bin, t_neg, t_not, t_cmp, t_cmp2, cmp2T_t, cmp2T_f, t_and, t_or, t_if, t_idx, t_tup, t_lst, t_call, t_blt, t_mth, mthT_t, es_nil, ts_cons, b_nil, tb_cons, ts_asg, ts_expr, ts_if, ts_ret, s_rais, seqT_nx, seqT_rt, seqT_exn, seqT_bk, seqT_ct, bindT_ok, bindT_exn, outT_ok, outT_exn, tstT_ok, tstT_exn, asBT_bl, c_eqI, c_neI, c_ltI, c_leI, c_gtI, c_geI, o_addI, o_subI, n_I, abs_N, ix_tup, lift_some, at0, at1, at2, at3, asT_var, asT_tup, asTs_nil, asTs_cons, ctl_call, List.getElem?_cons_zero, List.getElem?_cons_succ, List.set_cons_zero, List.set_cons_succ, List.length_cons, List.length_nil, List.map_cons, List.map_nil, List.cons_append, List.nil_append, List.replicate_succ, List.replicate_zero, Nat.reduceAdd, Nat.reduceSub, Nat.reduceLT, Nat.reduceLeDiff, sz, Option.bind_some, Option.bind_none, Option.map_some, Bool.false_eq_true, if_true, if_false, reduceIte, Nat.zero_add, startE, Bool.not_true, Bool.not_false, decide_true, decide_false, irOver, encQ, o_mulI (mg hp.num hq.den), o_mulI (mg hp.den hq.num), made_ok hP hb (mul_lt hp.den hq.num)]
end
end Dat

/-! Dat21 -/
set_option linter.all false
set_option maxRecDepth 100000
set_option maxHeartbeats 4000000
/-! Dat21: the law's dice. -/
namespace Dat
open PySem L2
def irDice : List IS := [(.ifS (.cmp2 .Lt .Lt (.bin .Sub (.con (.int 0)) (.con (.int 10))) (.var 0) (.con (.int 10))) [(.ret (.lst [(.blt .abs [(.var 0)]), (.con (.int 0)), (.con (.int 2))]))] []), (.ret (.lst [(.var 0), (.bin .Add (.con (.int 1)) (.bin .Mod (.blt .int [(.var 0)]) (.con (.int 1009)))), (.blt .int [(.cmp .GtE (.var 0) (.bin .Pow (.con (.int 10)) (.con (.int 18))))])]))]
def irRollK (k1 k2 k3 K k7 : Int) : List IS := [(.ifS (.orE (.cmp .Eq (.idx (.var 0) (.con (.int 2))) (.con (.int 2))) (.andE (.cmp .Eq (.idx (.var 0) (.con (.int 2))) (.con (.int 1))) (.cmp .Gt (.idx (.var 0) (.con (.int 0))) (.con (.int 0))))) [(.asg (.var 2) (.bin .Mod (.blt .int [(.idx (.var 0) (.con (.int 0)))]) (.var 1))), (.setI (.var 0) (.con (.int 0)) (.bin .FloorDiv (.idx (.var 0) (.con (.int 0))) (.var 1))), (.ret (.var 2))] []), (.setI (.var 0) (.con (.int 2)) (.con (.int 0))), (.setI (.var 0) (.con (.int 0)) (.bin .Mod (.blt .int [(.bin .Add (.bin .Add (.bin .Mult (.idx (.var 0) (.con (.int 0))) (.con (.int k1))) (.bin .Mult (.idx (.var 0) (.con (.int 1))) (.con (.int k2)))) (.con (.int k3)))]) (.con (.int K)))), (.setI (.var 0) (.con (.int 1)) (.bin .Add (.idx (.var 0) (.con (.int 1))) (.con (.int 1)))), (.ret (.bin .Mod (.blt .int [(.bin .Add (.bin .FloorDiv (.idx (.var 0) (.con (.int 0))) (.con (.int k7))) (.idx (.var 0) (.con (.int 0))))]) (.var 1)))]
abbrev irRoll : List IS := irRollK 48271 69621 11 2147483647 7
def irRounds (iD : Nat) : List IS := [(.asg (.var 2) (.slc false true (.var 0) .nop (.var 1))), (.ifS (.cmp .Eq (.var 2) (.lst [])) [(.asg (.var 2) (.lst [(.con (.int 0))]))] []), (.ret (.comp (.var 3) (.seq (.var 2)) (.con (.bl true)) (.call iD [(.var 3)]) [3]))]
/-- what holds of a dice's numbers, t the rolls so far -/
def DOk (E t : Nat) (a b : Int) : Prop := a.natAbs < 2 ^ E ∧ b.natAbs ≤ 2000 + t
theorem divG_64 {i j : Int} (h0 : j ≠ 0) (hj : j.natAbs < 2 ^ 64) : DivG i j := divG_of h0 (Nat.lt_of_lt_of_le hj (Nat.pow_le_pow_right (by decide) (by decide)))
section
variable {C : Ctl} {env : EnvD} {m : Mem}
theorem s_setI {o i e : IE} : evalS C (.setI o i e) env m = ((evalE e C env m).bind fun v m1 => (evalE o C env m1).bind fun a m2 => (evalE i C env m2).bind fun k m3 => (setD a k v m3).bind fun _ m4 => (Res.ok .non m4).gc m.length).out env fun _ m4 => .nx env m4 := by rw [evalS]
theorem ts_setI {o i e : IE} : evalS C (.setI o i e) env m = ((evalE e C env m).bindT (fun v m1 => (evalE o C env m1).bindT (fun a m2 => (evalE i C env m2).bindT (fun k m3 => (setD a k v m3).bindT (fun _ m4 => (Res.ok .non m4).gc m.length) ⟨⟩) ⟨⟩) ⟨⟩) ⟨⟩).outT env (fun _ m4 => .nx env m4) ⟨⟩ := s_setI
theorem gcM_set {a : D} {i : Nat} {c : Cell} : gcM m.length a (m.set i c) = m.set i c := by
  have e : m.length = (m.set i c).length := by simp
  rw [e, gcM_same]
theorem ix_ref {i : Nat} {l : List D} {k : Int} (h : m[i]? = some (.lst l)) : idxD (.ref i) (.int k) m = liftO m (atI l k) := by
  simp only [idxD, seqD, h]
theorem set_ref {i : Nat} {l : List D} {k : Int} {v : D} {j : Nat} (h : m[i]? = some (.lst l)) (hj : ixN l.length k = some j) : setD (.ref i) (.int k) v m = .ok () (m.set i (.lst (l.set j v))) := by
  simp only [setD, h, hj]
theorem int_I {i : Int} : bltD .int [.int i] m = .ok (.int i) m := rfl
theorem get_set {i : Nat} {c c' : Cell} (h : m[i]? = some c) : (m.set i c')[i]? = some c' := List.getElem?_set_self (List.getElem?_eq_some_iff.mp h).1
end
theorem fdiv_small {a k : Int} (hk : 0 < k) : (a.fdiv k).natAbs ≤ a.natAbs := by
  rw [Int.fdiv_eq_ediv_of_nonneg _ (by omega)]
  have h1 := Int.mul_ediv_add_emod a k
  have h2 := Int.emod_nonneg a (by omega : k ≠ 0)
  have h3 := Int.emod_lt_of_pos a hk
  generalize hq : a / k = q at *
  by_cases h : 0 ≤ q
  · have : q ≤ k * q := by
      have := Int.mul_le_mul_of_nonneg_right (show (1 : Int) ≤ k by omega) h
      omega
    omega
  · have : k * (q + 1) ≤ q + 1 := by
      have := Int.mul_le_mul_of_nonneg_right (show (1 : Int) ≤ k by omega) (show 0 ≤ -(q + 1) by omega)
      rw [Int.mul_neg, Int.mul_neg] at this
      omega
    rw [Int.mul_add, Int.mul_one] at this
    omega
section
variable {P : Prog} {n : Nat} {m : Mem}
theorem roll_okK {f : Nat} {k1 k2 k3 K k7 : Int} (q1 : k1.natAbs < 2 ^ 16) (q2 : k2.natAbs < 2 ^ 17) (q3 : 0 < K) (q4 : K < 2 ^ 31) (q7 : k7 ≠ 0) (q8 : k7.natAbs < 2 ^ 64) (hf : P.fns[f]? = some ⟨2, 3, irRollK k1 k2 k3 K k7⟩) {E i t : Nat} (hE : 31 ≤ E) (hE2 : E ≤ 134217700) {a b c many : Int} (hm : m[i]? = some (.lst [.int a, .int b, .int c])) (hd : DOk E t a b) (ht : t < 1000000000) (h0 : 0 < many) (h1 : many.natAbs < 2 ^ 64) :
    ∃ r a' b' c', 0 ≤ r ∧ r < many ∧ DOk E (t + 1) a' b' ∧ runF P (n + 1) f [.ref i, .int many] m = .ok (.int r) (m.set i (.lst [.int a', .int b', .int c'])) := by
  have hn : many ≠ 0 := by omega
  have x0 : ixN 3 0 = some 0 := rfl
  have x1 : ixN 3 1 = some 1 := rfl
  have x2 : ixN 3 2 = some 2 := rfl
  by_cases hc : c = 2 ∨ (c = 1 ∧ 0 < a)
  · refine ⟨a.fmod many, a.fdiv many, b, c, Int.fmod_nonneg_of_pos _ h0, Int.fmod_lt_of_pos _ h0, ⟨Nat.lt_of_le_of_lt (fdiv_small h0) hd.1, by have := hd.2; omega⟩, ?_⟩
    rw [runF_at hf rfl]
    rcases hc with rfl | ⟨rfl, ha⟩
    · simp only [fin_rt, fin_nx, fin_exn, seq_nx, seq_rt, seq_exn, seq_bk, seq_ct, bind_ok, bind_exn, out_ok, out_exn, tst_ok, tst_exn, gc_ok_, gc_exn, gcM_same, asB_bl, selB_t, selB_f, selE_t, selE_f, rdV_some, stT_some, e_var, e_con, e_glo, e_nop, t_bin, t_neg, t_not, t_cmp, t_cmp2, cmp2T_t, cmp2T_f, t_and, t_or, t_if, t_idx, t_tup, t_lst, t_call, t_blt, t_mth, mthT_t, es_nil, ts_cons, b_nil, tb_cons, ts_asg, ts_expr, ts_if, ts_ret, s_rais, seqT_nx, seqT_rt, seqT_exn, seqT_bk, seqT_ct, bindT_ok, bindT_exn, outT_ok, outT_exn, tstT_ok, tstT_exn, asBT_bl, c_eqI, c_neI, c_ltI, c_leI, c_gtI, c_geI, o_addI, o_subI, n_I, abs_N, ix_tup, lift_some, at0, at1, at2, at3, asT_var, asT_tup, asTs_nil, asTs_cons, ctl_call, List.getElem?_cons_zero, List.getElem?_cons_succ, List.set_cons_zero, List.set_cons_succ, List.length_cons, List.length_nil, List.map_cons, List.map_nil, List.cons_append, List.nil_append, List.replicate_succ, List.replicate_zero, Nat.reduceAdd, Nat.reduceSub, Nat.reduceLT, Nat.reduceLeDiff, sz, Option.bind_some, Option.bind_none, Option.map_some, Bool.false_eq_true, if_true, if_false, reduceIte, Nat.zero_add, startE, Bool.not_true, Bool.not_false, decide_true, decide_false, irRollK, ix_ref hm, int_I, o_modI hn, ts_setI, o_divI (divG_64 hn h1), set_ref hm x0, gcM_set]
    · simp only [fin_rt, fin_nx, fin_exn, seq_nx, seq_rt, seq_exn, seq_bk, seq_ct, bind_ok, bind_exn, out_ok, out_exn, tst_ok, tst_exn, gc_ok_, gc_exn, gcM_same, asB_bl, selB_t, selB_f, selE_t, selE_f, rdV_some, stT_some, e_var, e_con, e_glo, e_nop, t_bin, t_neg, t_not, t_cmp, t_cmp2, cmp2T_t, cmp2T_f, t_and, t_or, t_if, t_idx, t_tup, t_lst, t_call, t_blt, t_mth, mthT_t, es_nil, ts_cons, b_nil, tb_cons, ts_asg, ts_expr, ts_if, ts_ret, s_rais, seqT_nx, seqT_rt, seqT_exn, seqT_bk, seqT_ct, bindT_ok, bindT_exn, outT_ok, outT_exn, tstT_ok, tstT_exn, asBT_bl, c_eqI, c_neI, c_ltI, c_leI, c_gtI, c_geI, o_addI, o_subI, n_I, abs_N, ix_tup, lift_some, at0, at1, at2, at3, asT_var, asT_tup, asTs_nil, asTs_cons, ctl_call, List.getElem?_cons_zero, List.getElem?_cons_succ, List.set_cons_zero, List.set_cons_succ, List.length_cons, List.length_nil, List.map_cons, List.map_nil, List.cons_append, List.nil_append, List.replicate_succ, List.replicate_zero, Nat.reduceAdd, Nat.reduceSub, Nat.reduceLT, Nat.reduceLeDiff, sz, Option.bind_some, Option.bind_none, Option.map_some, Bool.false_eq_true, if_true, if_false, reduceIte, Nat.zero_add, startE, Bool.not_true, Bool.not_false, decide_true, decide_false, irRollK, ix_ref hm, int_I, o_modI hn, ts_setI, o_divI (divG_64 hn h1), set_ref hm x0, gcM_set, ha, show ¬ ((1 : Int) = 2) by decide]
  · have hc2 : c ≠ 2 := fun z => hc (.inl z)
    have hx : ∀ (C : Ctl), selE C (decide (c = 1)) (.cmp .Gt (.idx (.var 0) (.con (.int 0))) (.con (.int 0))) (.con (.bl false)) [some (.ref i), some (.int many), none] m = .ok (.bl false) m := fun C => by
      by_cases h3 : c = 1
      · have h4 : ¬ 0 < a := fun z => hc (.inr ⟨h3, z⟩)
        simp only [fin_rt, fin_nx, fin_exn, seq_nx, seq_rt, seq_exn, seq_bk, seq_ct, bind_ok, bind_exn, out_ok, out_exn, tst_ok, tst_exn, gc_ok_, gc_exn, gcM_same, asB_bl, selB_t, selB_f, selE_t, selE_f, rdV_some, stT_some, e_var, e_con, e_glo, e_nop, t_bin, t_neg, t_not, t_cmp, t_cmp2, cmp2T_t, cmp2T_f, t_and, t_or, t_if, t_idx, t_tup, t_lst, t_call, t_blt, t_mth, mthT_t, es_nil, ts_cons, b_nil, tb_cons, ts_asg, ts_expr, ts_if, ts_ret, s_rais, seqT_nx, seqT_rt, seqT_exn, seqT_bk, seqT_ct, bindT_ok, bindT_exn, outT_ok, outT_exn, tstT_ok, tstT_exn, asBT_bl, c_eqI, c_neI, c_ltI, c_leI, c_gtI, c_geI, o_addI, o_subI, n_I, abs_N, ix_tup, lift_some, at0, at1, at2, at3, asT_var, asT_tup, asTs_nil, asTs_cons, ctl_call, List.getElem?_cons_zero, List.getElem?_cons_succ, List.set_cons_zero, List.set_cons_succ, List.length_cons, List.length_nil, List.map_cons, List.map_nil, List.cons_append, List.nil_append, List.replicate_succ, List.replicate_zero, Nat.reduceAdd, Nat.reduceSub, Nat.reduceLT, Nat.reduceLeDiff, sz, Option.bind_some, Option.bind_none, Option.map_some, Bool.false_eq_true, if_true, if_false, reduceIte, Nat.zero_add, startE, Bool.not_true, Bool.not_false, decide_true, decide_false, h3, ix_ref hm, h4]
      · simp only [fin_rt, fin_nx, fin_exn, seq_nx, seq_rt, seq_exn, seq_bk, seq_ct, bind_ok, bind_exn, out_ok, out_exn, tst_ok, tst_exn, gc_ok_, gc_exn, gcM_same, asB_bl, selB_t, selB_f, selE_t, selE_f, rdV_some, stT_some, e_var, e_con, e_glo, e_nop, t_bin, t_neg, t_not, t_cmp, t_cmp2, cmp2T_t, cmp2T_f, t_and, t_or, t_if, t_idx, t_tup, t_lst, t_call, t_blt, t_mth, mthT_t, es_nil, ts_cons, b_nil, tb_cons, ts_asg, ts_expr, ts_if, ts_ret, s_rais, seqT_nx, seqT_rt, seqT_exn, seqT_bk, seqT_ct, bindT_ok, bindT_exn, outT_ok, outT_exn, tstT_ok, tstT_exn, asBT_bl, c_eqI, c_neI, c_ltI, c_leI, c_gtI, c_geI, o_addI, o_subI, n_I, abs_N, ix_tup, lift_some, at0, at1, at2, at3, asT_var, asT_tup, asTs_nil, asTs_cons, ctl_call, List.getElem?_cons_zero, List.getElem?_cons_succ, List.set_cons_zero, List.set_cons_succ, List.length_cons, List.length_nil, List.map_cons, List.map_nil, List.cons_append, List.nil_append, List.replicate_succ, List.replicate_zero, Nat.reduceAdd, Nat.reduceSub, Nat.reduceLT, Nat.reduceLeDiff, sz, Option.bind_some, Option.bind_none, Option.map_some, Bool.false_eq_true, if_true, if_false, reduceIte, Nat.zero_add, startE, Bool.not_true, Bool.not_false, decide_true, decide_false, h3]
    have p0 : K ≠ 0 := by omega
    have gA : MulG a k1 := mulG_of (q := 16) hd.1 q1 (by omega)
    have gB : MulG b k2 := mulG_of (p := 31) (q := 17) (by have := hd.2; omega) q2 (by decide)
    obtain ⟨a', ea⟩ : ∃ a', a' = (a * k1 + b * k2 + k3).fmod K := ⟨_, rfl⟩
    have j1 : 0 ≤ a' := ea ▸ Int.fmod_nonneg_of_pos _ q3
    have j2 : a' < K := ea ▸ Int.fmod_lt_of_pos _ q3
    have gs : ∀ l : List D, (m.set i (.lst l))[i]? = some (.lst l) := fun l => get_set hm
    refine ⟨(a'.fdiv k7 + a').fmod many, a', b + 1, 0, Int.fmod_nonneg_of_pos _ h0, Int.fmod_lt_of_pos _ h0, ⟨Nat.lt_of_lt_of_le (show a'.natAbs < 2 ^ 31 by omega) (Nat.pow_le_pow_right (by decide) hE), by have := hd.2; omega⟩, ?_⟩
    have gD : DivG a' k7 := divG_64 q7 q8
    rw [runF_at hf rfl]
    have ix : ∀ (l : List D) (k : Int), idxD (.ref i) (.int k) (m.set i (.lst l)) = liftO (m.set i (.lst l)) (atI l k) := fun l k => ix_ref (gs l)
    have st : ∀ (l : List D) (k : Int) (j : Nat) (v : D), ixN l.length k = some j → setD (.ref i) (.int k) v (m.set i (.lst l)) = .ok () (m.set i (.lst (l.set j v))) := fun l k j v h => by
      rw [set_ref (gs l) h, List.set_set]
    simp only [fin_rt, fin_nx, fin_exn, seq_nx, seq_rt, seq_exn, seq_bk, seq_ct, bind_ok, bind_exn, out_ok, out_exn, tst_ok, tst_exn, gc_ok_, gc_exn, gcM_same, asB_bl, selB_t, selB_f, selE_t, selE_f, rdV_some, stT_some, e_var, e_con, e_glo, e_nop, t_bin, t_neg, t_not, t_cmp, t_cmp2, cmp2T_t, cmp2T_f, t_and, t_or, t_if, t_idx, t_tup, t_lst, t_call, t_blt, t_mth, mthT_t, es_nil, ts_cons, b_nil, tb_cons, ts_asg, ts_expr, ts_if, ts_ret, s_rais, seqT_nx, seqT_rt, seqT_exn, seqT_bk, seqT_ct, bindT_ok, bindT_exn, outT_ok, outT_exn, tstT_ok, tstT_exn, asBT_bl, c_eqI, c_neI, c_ltI, c_leI, c_gtI, c_geI, o_addI, o_subI, n_I, abs_N, ix_tup, lift_some, at0, at1, at2, at3, asT_var, asT_tup, asTs_nil, asTs_cons, ctl_call, List.getElem?_cons_zero, List.getElem?_cons_succ, List.set_cons_zero, List.set_cons_succ, List.length_cons, List.length_nil, List.map_cons, List.map_nil, List.cons_append, List.nil_append, List.replicate_succ, List.replicate_zero, Nat.reduceAdd, Nat.reduceSub, Nat.reduceLT, Nat.reduceLeDiff, sz, Option.bind_some, Option.bind_none, Option.map_some, Bool.false_eq_true, if_true, if_false, reduceIte, Nat.zero_add, startE, Bool.not_true, Bool.not_false, decide_true, decide_false, irRollK, ix_ref hm, hc2, hx, ts_setI, set_ref hm x2, gcM_set, List.length_set, ix, int_I, o_mulI gA, o_mulI gB, o_modI p0, ← ea, st [.int a, .int b, .int 0] 0 0 _ x0, st [.int a', .int b, .int 0] 1 1 _ x1, o_divI gD, o_modI hn]
theorem roll_ok {f : Nat} (hf : P.fns[f]? = some ⟨2, 3, irRoll⟩) {E i t : Nat} (hE : 31 ≤ E) (hE2 : E ≤ 134217700) {a b c many : Int} (hm : m[i]? = some (.lst [.int a, .int b, .int c])) (hd : DOk E t a b) (ht : t < 1000000000) (h0 : 0 < many) (h1 : many.natAbs < 2 ^ 64) :
    ∃ r a' b' c', 0 ≤ r ∧ r < many ∧ DOk E (t + 1) a' b' ∧ runF P (n + 1) f [.ref i, .int many] m = .ok (.int r) (m.set i (.lst [.int a', .int b', .int c'])) :=
  roll_okK (by decide) (by decide) (by decide) (by decide) (by decide) (by decide) hf hE hE2 hm hd ht h0 h1
theorem gcM_new {d : List D} {l : Mem} {k : Nat} (h : m.length ≤ k) : gcM m.length (.ref k) (m ++ l) = m ++ l := by
  unfold gcM
  rw [if_neg]
  rintro ⟨h1, _⟩
  simp [D.undr] at h1
  omega
theorem o_pow {m : Mem} : binD .Pow (.int 10) (.int 18) m = .ok (.int 1000000000000000000) m := by
  have h : PowG 10 18 := by decide
  show (if PowG 10 18 then Res.ok (D.int (10 ^ (18 : Int).toNat)) m else .stuck) = _
  rw [if_pos h] <;> rfl
theorem int_B {b : Bool} {m : Mem} : bltD .int [.bl b] m = .ok (.int (if b then 1 else 0)) m := rfl
theorem dice_ok {f : Nat} (hf : P.fns[f]? = some ⟨1, 1, irDice⟩) {E : Nat} (hE : 31 ≤ E) {z : Int} (hz : z.natAbs < 2 ^ E) :
    ∃ a b c, DOk E 0 a b ∧ runF P (n + 1) f [.int z] m = .ok (.ref m.length) (m ++ [.lst [.int a, .int b, .int c]]) := by
  by_cases h : 0 - 10 < z ∧ z < 10
  · refine ⟨z.natAbs, 0, 2, ⟨by rw [Int.natAbs_natCast]; exact hz, by decide⟩, ?_⟩
    rw [runF_at hf rfl]
    simp only [fin_rt, fin_nx, fin_exn, seq_nx, seq_rt, seq_exn, seq_bk, seq_ct, bind_ok, bind_exn, out_ok, out_exn, tst_ok, tst_exn, gc_ok_, gc_exn, gcM_same, asB_bl, selB_t, selB_f, selE_t, selE_f, rdV_some, stT_some, e_var, e_con, e_glo, e_nop, t_bin, t_neg, t_not, t_cmp, t_cmp2, cmp2T_t, cmp2T_f, t_and, t_or, t_if, t_idx, t_tup, t_lst, t_call, t_blt, t_mth, mthT_t, es_nil, ts_cons, b_nil, tb_cons, ts_asg, ts_expr, ts_if, ts_ret, s_rais, seqT_nx, seqT_rt, seqT_exn, seqT_bk, seqT_ct, bindT_ok, bindT_exn, outT_ok, outT_exn, tstT_ok, tstT_exn, asBT_bl, c_eqI, c_neI, c_ltI, c_leI, c_gtI, c_geI, o_addI, o_subI, n_I, abs_N, ix_tup, lift_some, at0, at1, at2, at3, asT_var, asT_tup, asTs_nil, asTs_cons, ctl_call, List.getElem?_cons_zero, List.getElem?_cons_succ, List.set_cons_zero, List.set_cons_succ, List.length_cons, List.length_nil, List.map_cons, List.map_nil, List.cons_append, List.nil_append, List.replicate_succ, List.replicate_zero, Nat.reduceAdd, Nat.reduceSub, Nat.reduceLT, Nat.reduceLeDiff, sz, Option.bind_some, Option.bind_none, Option.map_some, Bool.false_eq_true, if_true, if_false, reduceIte, Nat.zero_add, startE, Bool.not_true, Bool.not_false, decide_true, decide_false, irDice, h.1, h.2, gcM_new (d := []) (Nat.le_refl m.length)]
  · have p : (1009 : Int) ≠ 0 := by decide
    have j1 := Int.fmod_nonneg_of_pos z (by decide : (0 : Int) < 1009)
    have j2 := Int.fmod_lt_of_pos z (by decide : (0 : Int) < 1009)
    refine ⟨z, 1 + z.fmod 1009, if decide (1000000000000000000 ≤ z) then 1 else 0, ⟨hz, by omega⟩, ?_⟩
    rw [runF_at hf rfl]
    by_cases h1 : 0 - 10 < z
    · have h2 : ¬ z < 10 := fun q => h ⟨h1, q⟩
      simp only [fin_rt, fin_nx, fin_exn, seq_nx, seq_rt, seq_exn, seq_bk, seq_ct, bind_ok, bind_exn, out_ok, out_exn, tst_ok, tst_exn, gc_ok_, gc_exn, gcM_same, asB_bl, selB_t, selB_f, selE_t, selE_f, rdV_some, stT_some, e_var, e_con, e_glo, e_nop, t_bin, t_neg, t_not, t_cmp, t_cmp2, cmp2T_t, cmp2T_f, t_and, t_or, t_if, t_idx, t_tup, t_lst, t_call, t_blt, t_mth, mthT_t, es_nil, ts_cons, b_nil, tb_cons, ts_asg, ts_expr, ts_if, ts_ret, s_rais, seqT_nx, seqT_rt, seqT_exn, seqT_bk, seqT_ct, bindT_ok, bindT_exn, outT_ok, outT_exn, tstT_ok, tstT_exn, asBT_bl, c_eqI, c_neI, c_ltI, c_leI, c_gtI, c_geI, o_addI, o_subI, n_I, abs_N, ix_tup, lift_some, at0, at1, at2, at3, asT_var, asT_tup, asTs_nil, asTs_cons, ctl_call, List.getElem?_cons_zero, List.getElem?_cons_succ, List.set_cons_zero, List.set_cons_succ, List.length_cons, List.length_nil, List.map_cons, List.map_nil, List.cons_append, List.nil_append, List.replicate_succ, List.replicate_zero, Nat.reduceAdd, Nat.reduceSub, Nat.reduceLT, Nat.reduceLeDiff, sz, Option.bind_some, Option.bind_none, Option.map_some, Bool.false_eq_true, if_true, if_false, reduceIte, Nat.zero_add, startE, Bool.not_true, Bool.not_false, decide_true, decide_false, irDice, h1, h2, int_I, o_modI p, o_pow, int_B, gcM_new (d := []) (Nat.le_refl m.length)]
    · simp only [fin_rt, fin_nx, fin_exn, seq_nx, seq_rt, seq_exn, seq_bk, seq_ct, bind_ok, bind_exn, out_ok, out_exn, tst_ok, tst_exn, gc_ok_, gc_exn, gcM_same, asB_bl, selB_t, selB_f, selE_t, selE_f, rdV_some, stT_some, e_var, e_con, e_glo, e_nop, t_bin, t_neg, t_not, t_cmp, t_cmp2, cmp2T_t, cmp2T_f, t_and, t_or, t_if, t_idx, t_tup, t_lst, t_call, t_blt, t_mth, mthT_t, es_nil, ts_cons, b_nil, tb_cons, ts_asg, ts_expr, ts_if, ts_ret, s_rais, seqT_nx, seqT_rt, seqT_exn, seqT_bk, seqT_ct, bindT_ok, bindT_exn, outT_ok, outT_exn, tstT_ok, tstT_exn, asBT_bl, c_eqI, c_neI, c_ltI, c_leI, c_gtI, c_geI, o_addI, o_subI, n_I, abs_N, ix_tup, lift_some, at0, at1, at2, at3, asT_var, asT_tup, asTs_nil, asTs_cons, ctl_call, List.getElem?_cons_zero, List.getElem?_cons_succ, List.set_cons_zero, List.set_cons_succ, List.length_cons, List.length_nil, List.map_cons, List.map_nil, List.cons_append, List.nil_append, List.replicate_succ, List.replicate_zero, Nat.reduceAdd, Nat.reduceSub, Nat.reduceLT, Nat.reduceLeDiff, sz, Option.bind_some, Option.bind_none, Option.map_some, Bool.false_eq_true, if_true, if_false, reduceIte, Nat.zero_add, startE, Bool.not_true, Bool.not_false, decide_true, decide_false, irDice, h1, int_I, o_modI p, o_pow, int_B, gcM_new (d := []) (Nat.le_refl m.length)]
end
end Dat

/-! Dat22 -/
set_option linter.all false
set_option maxRecDepth 100000
set_option maxHeartbeats 4000000
/-! Dat22: the law's rounds. -/
namespace Dat
open PySem L2
def IsDice (E t : Nat) (c : Cell) : Prop := ∃ a b z, c = .lst [.int a, .int b, .int z] ∧ DOk E t a b
theorem gcM_cut {a : D} {m l : Mem} (hc : Clo m) (ha : a.undr m.length = true) : gcM m.length a (m ++ l) = m := by
  unfold gcM
  have e : (m ++ l).take m.length = m := by simp
  rw [e, if_pos ⟨ha, hc⟩]
theorem cut_take {l : List D} {k : Nat} : cutD l none (some (k : Int)) = l.take k := by
  unfold cutD
  rw [HT.sIx_none, HT.sIx_nat, List.drop_zero, Nat.sub_zero]
  rcases Nat.le_total k l.length with h | h
  · rw [Nat.min_eq_left h]
  · rw [Nat.min_eq_right h, List.take_of_length_le (Nat.le_refl _), List.take_of_length_le h]
theorem toPy0_ints : ∀ l : List Int, toPy0L (l.map .int) = some (l.map .int)
  | [] => rfl
  | x :: l => by simp [toPy0L, toPy0, toPy0_ints l]
theorem lay_ints : ∀ l : List Int, PyData.canLayAll0 (l.map .int) = true ∧ PyData.depthAll (l.map .int) = 0
  | [] => ⟨rfl, rfl⟩
  | x :: l => by
    obtain ⟨h1, h2⟩ := lay_ints l
    exact ⟨by simp only [List.map_cons, PyData.canLayAll0, PyData.canLay0, h1, Bool.and_true], by simp only [List.map_cons, PyData.depthAll, PyData.depth, h2, Nat.max_self]⟩
theorem shaped_ints (l : List Int) : SeqAt.shaped (.list (l.map .int)) = true := by
  obtain ⟨h1, h2⟩ := lay_ints l
  unfold SeqAt.shaped
  simp only [PyData.canLay0, PyData.depth, h1, h2, Bool.true_and]
  decide
theorem eq_nil {m : Mem} {i j : Nat} {l : List Int} (h : m[i]? = some (.lst (l.map .int))) (h2 : m[j]? = some (.lst [])) : cmpD .Eq (.ref i) (.ref j) m = .ok (.bl l.isEmpty) m := by
  have e : eqD m (.ref i) (.ref j) = some l.isEmpty := by
    unfold eqD
    simp only [toPy_lst h (toPy0_ints l), toPy_lst h2 (show toPy0L [] = some [] from rfl)]
    rw [if_pos ⟨shaped_ints l, rfl⟩]
    cases l <;> rfl
  simp only [cmpD, e, liftO, Option.map_some]
theorem ints_undr {k : Nat} : ∀ l : List Int, D.undrL k (l.map .int) = true
  | [] => rfl
  | x :: l => by simp [D.undrL, D.undr, ints_undr l]
theorem Clo.app {m : Mem} {c : Cell} (h : Clo m) (hc : c.undr (m.length + 1) = true) : Clo (m ++ [c]) := by
  intro d hd
  rw [List.length_append]
  rcases List.mem_append.mp hd with e | e
  · exact undrC_le (by simp) d (h d e)
  · rw [List.mem_singleton.mp e]; exact hc
theorem Clo.dice {E t : Nat} : ∀ {ds : List Cell} {m : Mem}, Clo m → (∀ d ∈ ds, IsDice E t d) → Clo (m ++ ds)
  | [], m, h, _ => by simpa using h
  | c :: ds, m, h, hd => by
    have e : m ++ c :: ds = (m ++ [c]) ++ ds := by simp
    rw [e]
    refine Clo.dice (h.app ?_) fun d hd' => hd d (List.mem_cons_of_mem _ hd')
    obtain ⟨a, b, z, rfl, _⟩ := hd c List.mem_cons_self
    rfl
section
variable {P : Prog} {n : Nat}
theorem comp_dice {o : Wch} {E : Nat} {body : D → Mem → Res (Option D)}
    (hb : ∀ (z : Int) (m : Mem), z.natAbs < 2 ^ E → ∃ c, IsDice E 0 c ∧ body (.int z) m = .ok (some (.ref m.length)) (m ++ [c])) :
    ∀ (cells : List Int) (m : Mem), (∀ z ∈ cells, z.natAbs < 2 ^ E) → (∀ ext, chkW o (m ++ ext)) →
      ∃ ds : List Cell, ds.length = cells.length ∧ (∀ d ∈ ds, IsDice E 0 d) ∧ compL o body (cells.map .int) m = .ok ((List.range' m.length cells.length).map .ref) (m ++ ds)
  | [], m, _, hk => by
    refine ⟨[], rfl, by simp, ?_⟩
    have h0 := hk []
    rw [List.append_nil] at h0
    simp only [List.map_nil, compL, if_pos h0]
    simp
  | z :: cells, m, hz, hk => by
    obtain ⟨c, h1, h2⟩ := hb z m (hz z List.mem_cons_self)
    obtain ⟨ds, e1, e2, e3⟩ := comp_dice hb cells (m ++ [c]) (fun z h => hz z (List.mem_cons_of_mem _ h)) (fun ext => by rw [List.append_assoc]; exact hk _)
    refine ⟨c :: ds, by simp [e1], ?_, ?_⟩
    · intro d hd
      rcases List.mem_cons.mp hd with e | e
      · rw [e]; exact h1
      · exact e2 d e
    · have h0 := hk []
      rw [List.append_nil] at h0
      simp only [List.map_cons, compL, if_pos h0, h2, Res.bind]
      rw [e3]
      simp [optC, List.range'_succ]
theorem e_comp {C : Ctl} {env : EnvD} {m : Mem} {tg : Tg} {it : II} {c e : IE} {own : List Nat} : evalE (.comp tg it c e own) C env m = (evalI it C env m).bind fun I m1 => (compL I.2 (compB C tg c e own env) I.1 m1).bind fun l m2 => if l.length ≤ sizeLine then .ok (.ref m2.length) (m2 ++ [.lst l]) else .stuck := by
  rw [evalE] <;> rfl
theorem rounds_ok {iR iD : Nat} (hR : P.fns[iR]? = some ⟨2, 4, irRounds iD⟩) (hD : P.fns[iD]? = some ⟨1, 1, irDice⟩) {E : Nat} (hE : 31 ≤ E) {m : Mem} (hm : Clo m) {script : D} {ns : List Int} {most : Nat} (hmost : most ≤ 60)
    (hs : ∀ lo hi, slcD script lo hi m = .ok (.ref m.length) (m ++ [.lst (cutD (ns.map .int) lo hi)])) (hz : ∀ z ∈ ns, z.natAbs < 2 ^ E) :
    ∃ (pre ds : Mem), (∀ d ∈ ds, IsDice E 0 d) ∧ ds.length ≤ 60 ∧ Clo (m ++ pre ++ ds ++ [.lst ((List.range' (m.length + pre.length) ds.length).map .ref)]) ∧
      runF P (n + 2) iR [script, .int most] m = .ok (.ref (m.length + pre.length + ds.length)) (m ++ pre ++ ds ++ [.lst ((List.range' (m.length + pre.length) ds.length).map .ref)]) := by
  rw [runF_at hR rfl]
  obtain ⟨C, eC⟩ : ∃ C, C = P.ctl (runF P (n + 1)) (runF P (n + 1 - 2)) (n + 1) := ⟨_, rfl⟩
  have body : ∀ (q : Nat) (z : Int) (m : Mem), z.natAbs < 2 ^ E → ∃ c, IsDice E 0 c ∧ compB C (.var 3) (.con (.bl true)) (.call iD [(.var 3)]) [3] [some script, some (.int most), some (.ref q), none] (.int z) m = .ok (some (.ref m.length)) (m ++ [c]) := fun q z m hz => by
    obtain ⟨a, b, c, h1, h2⟩ := dice_ok (n := n) (m := m) hD hE hz
    refine ⟨_, ⟨a, b, c, rfl, h1⟩, ?_⟩
    have e1 : asgT m (.var 3) (.int z) (wipeE [some script, some (.int most), some (.ref q), none] [3]) = some [some script, some (.int most), some (.ref q), some (.int z)] := by simp [asgT, wipeE]
    have e2 : evalE (.call iD [(.var 3)]) C [some script, some (.int most), some (.ref q), some (.int z)] m = .ok (.ref m.length) (m ++ [.lst [.int a, .int b, .int c]]) := by
      rw [eC]
      simp only [fin_rt, fin_nx, fin_exn, seq_nx, seq_rt, seq_exn, seq_bk, seq_ct, bind_ok, bind_exn, out_ok, out_exn, tst_ok, tst_exn, gc_ok_, gc_exn, gcM_same, asB_bl, selB_t, selB_f, selE_t, selE_f, rdV_some, stT_some, e_var, e_con, e_glo, e_nop, t_bin, t_neg, t_not, t_cmp, t_cmp2, cmp2T_t, cmp2T_f, t_and, t_or, t_if, t_idx, t_tup, t_lst, t_call, t_blt, t_mth, mthT_t, es_nil, ts_cons, b_nil, tb_cons, ts_asg, ts_expr, ts_if, ts_ret, s_rais, seqT_nx, seqT_rt, seqT_exn, seqT_bk, seqT_ct, bindT_ok, bindT_exn, outT_ok, outT_exn, tstT_ok, tstT_exn, asBT_bl, c_eqI, c_neI, c_ltI, c_leI, c_gtI, c_geI, o_addI, o_subI, n_I, abs_N, ix_tup, lift_some, at0, at1, at2, at3, asT_var, asT_tup, asTs_nil, asTs_cons, ctl_call, List.getElem?_cons_zero, List.getElem?_cons_succ, List.set_cons_zero, List.set_cons_succ, List.length_cons, List.length_nil, List.map_cons, List.map_nil, List.cons_append, List.nil_append, List.replicate_succ, List.replicate_zero, Nat.reduceAdd, Nat.reduceSub, Nat.reduceLT, Nat.reduceLeDiff, sz, Option.bind_some, Option.bind_none, Option.map_some, Bool.false_eq_true, if_true, if_false, reduceIte, Nat.zero_add, startE, Bool.not_true, Bool.not_false, decide_true, decide_false, h2]
    unfold compB
    simp only [e1, e_con, e2]
  -- the end, behind the test
  have fin : ∀ (q : Nat) (cells : List Int) (m1 : Mem), cells.length ≤ 60 → (∀ z ∈ cells, z.natAbs < 2 ^ E) → m1[q]? = some (.lst (cells.map .int)) → ∃ ds : List Cell, ds.length = cells.length ∧ (∀ d ∈ ds, IsDice E 0 d) ∧
      evalE (.comp (.var 3) (.seq (.var 2)) (.con (.bl true)) (.call iD [(.var 3)]) [3]) C [some script, some (.int most), some (.ref q), none] m1 = .ok (.ref (m1.length + ds.length)) (m1 ++ ds ++ [.lst ((List.range' m1.length ds.length).map .ref)]) := fun q cells m1 hl hzc hq => by
    obtain ⟨ds, e1, e2, e3⟩ := comp_dice (o := .some (q, cells.map .int)) (body q) cells m1 hzc (fun ext => by
      show (m1 ++ ext)[q]? = _
      rw [List.getElem?_append_left (List.getElem?_eq_some_iff.mp hq).1, hq])
    refine ⟨ds, e1, e2, ?_⟩
    have e4 : evalI (.seq (.var 2)) C [some script, some (.int most), some (.ref q), none] m1 = .ok (cells.map .int, .some (q, cells.map .int)) m1 := by
      simp only [evalI, e_var, List.getElem?_cons_succ, List.getElem?_cons_zero, rdV_some, bind_ok, seqW, hq]
    rw [e_comp, e4]
    simp only [bind_ok, e3]
    rw [if_pos (by rw [List.length_map, List.length_range']; have : 64 ≤ sizeLine := by decide
                   omega)]
    simp [e1]
  have e1 : evalE (.slc false true (.var 0) .nop (.var 1)) C [some script, some (.int most), none, none] m = .ok (.ref m.length) (m ++ [.lst ((ns.take most).map .int)]) := by
    have e0 := hs none (some (most : Int))
    rw [cut_take, ← List.map_take] at e0
    simp only [evalE, List.getElem?_cons_succ, List.getElem?_cons_zero, Res.bind, partD, Bool.false_eq_true, if_false, if_true, e0]
  obtain ⟨m1, hm1⟩ : ∃ m1, m1 = m ++ [Cell.lst ((ns.take most).map .int)] := ⟨_, rfl⟩
  have c1 : Clo m1 := hm1 ▸ hm.app (ints_undr _)
  have q1 : m1[m.length]? = some (.lst ((ns.take most).map .int)) := by rw [hm1]; simp
  have l1 : m1.length = m.length + 1 := by rw [hm1]; simp
  have e2 := eq_nil (m := m1 ++ [.lst []]) (i := m.length) (j := m1.length) (l := ns.take most) (by rw [List.getElem?_append_left (by omega)]; exact q1) (by simp)
  have g1 : ∀ b : Bool, gcM m1.length (.bl b) (m1 ++ [Cell.lst []]) = m1 := fun b => gcM_cut c1 rfl
  have g0 : gcM m.length (.ref m.length) m1 = m1 := by rw [hm1]; exact gcM_new (d := []) (Nat.le_refl _)
  rw [← hm1] at e1
  have refsU : ∀ (k j : Nat), D.undrL (k + j + 1) ((List.range' k j).map .ref) = true := fun k j => by
    have : ∀ (l : List Nat) (N : Nat), (∀ i ∈ l, i < N) → D.undrL N (l.map .ref) = true := fun l N => by
      induction l with
      | nil => intro _; rfl
      | cons x l ih =>
        intro h
        simp only [List.map_cons, D.undrL, D.undr, Bool.and_eq_true, decide_eq_true_eq]
        exact ⟨h x List.mem_cons_self, ih fun i hi => h i (List.mem_cons_of_mem _ hi)⟩
    refine this _ _ fun i hi => ?_
    rw [List.mem_range'] at hi
    omega
  rw [← eC]
  cases he : (ns.take most).isEmpty with
  | false =>
    obtain ⟨ds, f1, f2, f3⟩ := fin m.length (ns.take most) m1 (by rw [List.length_take]; omega) (fun z h => hz z (List.mem_of_mem_take h)) q1
    have gE : gcM m.length (.ref (m1.length + ds.length)) (m1 ++ ds ++ [Cell.lst ((List.range' m1.length ds.length).map .ref)]) = m1 ++ ds ++ [Cell.lst ((List.range' m1.length ds.length).map .ref)] := by
      rw [hm1, List.append_assoc, List.append_assoc]
      exact gcM_new (d := []) (by simp; omega)
    refine ⟨[.lst ((ns.take most).map .int)], ds, f2, by rw [f1, List.length_take]; omega, ?_, ?_⟩
    · have := (Clo.dice c1 f2).app (c := .lst ((List.range' (m.length + 1) ds.length).map .ref)) (by
        rw [List.length_append, l1]
        exact refsU _ _)
      rw [hm1] at this
      exact this
    · rw [he] at e2
      simp only [fin_rt, fin_nx, fin_exn, seq_nx, seq_rt, seq_exn, seq_bk, seq_ct, bind_ok, bind_exn, out_ok, out_exn, tst_ok, tst_exn, gc_ok_, gc_exn, gcM_same, asB_bl, selB_t, selB_f, selE_t, selE_f, rdV_some, stT_some, e_var, e_con, e_glo, e_nop, t_bin, t_neg, t_not, t_cmp, t_cmp2, cmp2T_t, cmp2T_f, t_and, t_or, t_if, t_idx, t_tup, t_lst, t_call, t_blt, t_mth, mthT_t, es_nil, ts_cons, b_nil, tb_cons, ts_asg, ts_expr, ts_if, ts_ret, s_rais, seqT_nx, seqT_rt, seqT_exn, seqT_bk, seqT_ct, bindT_ok, bindT_exn, outT_ok, outT_exn, tstT_ok, tstT_exn, asBT_bl, c_eqI, c_neI, c_ltI, c_leI, c_gtI, c_geI, o_addI, o_subI, n_I, abs_N, ix_tup, lift_some, at0, at1, at2, at3, asT_var, asT_tup, asTs_nil, asTs_cons, ctl_call, List.getElem?_cons_zero, List.getElem?_cons_succ, List.set_cons_zero, List.set_cons_succ, List.length_cons, List.length_nil, List.map_cons, List.map_nil, List.cons_append, List.nil_append, List.replicate_succ, List.replicate_zero, Nat.reduceAdd, Nat.reduceSub, Nat.reduceLT, Nat.reduceLeDiff, sz, Option.bind_some, Option.bind_none, Option.map_some, Bool.false_eq_true, if_true, if_false, reduceIte, Nat.zero_add, startE, Bool.not_true, Bool.not_false, decide_true, decide_false, irRounds, e1, e2, g0, g1, f3, gE]
      rw [hm1]
      simp
  | true =>
    have m2 : (m1 ++ [Cell.lst [.int 0]])[m1.length]? = some (.lst (([0] : List Int).map .int)) := by simp
    obtain ⟨ds, f1, f2, f3⟩ := fin m1.length [0] (m1 ++ [.lst [.int 0]]) (by simp) (fun z h => by
      rw [List.mem_singleton.mp h]
      exact Nat.two_pow_pos E) m2
    have gL : gcM m1.length (.ref m1.length) (m1 ++ [Cell.lst [.int 0]]) = m1 ++ [Cell.lst [.int 0]] := gcM_new (d := []) (Nat.le_refl _)
    have gE : gcM m.length (.ref ((m1 ++ [Cell.lst [.int 0]]).length + ds.length)) (m1 ++ [Cell.lst [.int 0]] ++ ds ++ [Cell.lst ((List.range' (m1 ++ [Cell.lst [.int 0]]).length ds.length).map .ref)]) = m1 ++ [Cell.lst [.int 0]] ++ ds ++ [Cell.lst ((List.range' (m1 ++ [Cell.lst [.int 0]]).length ds.length).map .ref)] := by
      rw [hm1, List.append_assoc, List.append_assoc, List.append_assoc]
      exact gcM_new (d := []) (by simp; omega)
    have c2 : Clo (m1 ++ [Cell.lst [.int 0]]) := c1.app rfl
    refine ⟨[.lst ((ns.take most).map .int), .lst [.int 0]], ds, f2, by rw [f1]; decide, ?_, ?_⟩
    · have := (Clo.dice c2 f2).app (c := .lst ((List.range' (m.length + 2) ds.length).map .ref)) (by
        rw [List.length_append, List.length_append, l1]
        exact refsU _ _)
      rw [hm1] at this
      simpa using this
    · rw [he] at e2
      simp only [fin_rt, fin_nx, fin_exn, seq_nx, seq_rt, seq_exn, seq_bk, seq_ct, bind_ok, bind_exn, out_ok, out_exn, tst_ok, tst_exn, gc_ok_, gc_exn, gcM_same, asB_bl, selB_t, selB_f, selE_t, selE_f, rdV_some, stT_some, e_var, e_con, e_glo, e_nop, t_bin, t_neg, t_not, t_cmp, t_cmp2, cmp2T_t, cmp2T_f, t_and, t_or, t_if, t_idx, t_tup, t_lst, t_call, t_blt, t_mth, mthT_t, es_nil, ts_cons, b_nil, tb_cons, ts_asg, ts_expr, ts_if, ts_ret, s_rais, seqT_nx, seqT_rt, seqT_exn, seqT_bk, seqT_ct, bindT_ok, bindT_exn, outT_ok, outT_exn, tstT_ok, tstT_exn, asBT_bl, c_eqI, c_neI, c_ltI, c_leI, c_gtI, c_geI, o_addI, o_subI, n_I, abs_N, ix_tup, lift_some, at0, at1, at2, at3, asT_var, asT_tup, asTs_nil, asTs_cons, ctl_call, List.getElem?_cons_zero, List.getElem?_cons_succ, List.set_cons_zero, List.set_cons_succ, List.length_cons, List.length_nil, List.map_cons, List.map_nil, List.cons_append, List.nil_append, List.replicate_succ, List.replicate_zero, Nat.reduceAdd, Nat.reduceSub, Nat.reduceLT, Nat.reduceLeDiff, sz, Option.bind_some, Option.bind_none, Option.map_some, Bool.false_eq_true, if_true, if_false, reduceIte, Nat.zero_add, startE, Bool.not_true, Bool.not_false, decide_true, decide_false, irRounds, e1, e2, g0, g1, gL, f3, gE]
      rw [hm1]
      simp
end
end Dat

/-! Dat23 -/
set_option linter.all false
set_option maxRecDepth 100000
set_option maxHeartbeats 4000000
/-! Dat23: a law that asks its body of each dice. -/
namespace Dat
open PySem L2
/-- the body, at a dice: all is asked, the dice's numbers alone change -/
def BodyOk (C : Ctl) (B : List IS) (nn E : Nat) : Prop := ∀ (env : EnvD) (m : Mem) (i : Nat) (a b z : Int), env.length = nn → env[1]? = some (some (.ref i)) → Clo m → m[i]? = some (.lst [.int a, .int b, .int z]) → DOk E 0 a b →
  ∃ env' a' b' z', env'.length = nn ∧ evalB C B env m = .nx env' (m.set i (.lst [.int a', .int b', .int z']))
theorem Clo.set {m : Mem} {i : Nat} {a b z : Int} (h : Clo m) : Clo (m.set i (.lst [.int a, .int b, .int z])) := by
  intro c hc
  rw [List.length_set]
  rcases List.mem_or_eq_of_mem_set hc with e | e
  · exact h c e
  · rw [e]; rfl
theorem for_dice {C : Ctl} {B : List IS} {nn E : Nat} (hB : BodyOk C B nn E) (hn : 1 < nn) {r : Nat} {L : List D} : ∀ (j k : Nat) (env : EnvD) (m : Mem), env.length = nn → Clo m → m[r]? = some (.lst L) → k + j ≤ r → (∀ i, k ≤ i → i < k + j → ∃ c, m[i]? = some c ∧ IsDice E 0 c) →
    ∃ env' m', forL (.some (r, L)) (.var 1) (fun e m2 => evalB C B e m2) ((List.range' k j).map .ref) env m = .nx env' m'
  | 0, k, env, m, _, _, hr, _, _ => ⟨env, m, by
      simp only [List.range'_zero, List.map_nil, forL]
      rw [if_pos (show chkW (.some (r, L)) m from hr)]⟩
  | j + 1, k, env, m, hl, hc, hr, hk, hd => by
    obtain ⟨c, h1, a, b, z, rfl, h2⟩ := hd k (Nat.le_refl _) (by omega)
    have hl1 : (env.set 1 (some (.ref k))).length = nn := by rw [List.length_set]; exact hl
    obtain ⟨env', a', b', z', e1, e2⟩ := hB (env.set 1 (some (.ref k))) m k a b z hl1 (List.getElem?_set_self (by omega)) hc h1 h2
    have kr : k ≠ r := by omega
    obtain ⟨env2, m2, e3⟩ := for_dice hB hn j (k + 1) env' (m.set k (.lst [.int a', .int b', .int z'])) e1 hc.set (by rw [List.getElem?_set_ne kr]; exact hr) (by omega) (fun i h3 h4 => by
      have ki : k ≠ i := by omega
      rw [List.getElem?_set_ne ki]
      exact hd i (by omega) (by omega))
    refine ⟨env2, m2, ?_⟩
    rw [List.range'_succ, List.map_cons]
    simp only [forL]
    rw [if_pos (show chkW (.some (r, L)) m from hr), asgT, if_pos (by omega)]
    simp only [e2]
    exact e3
theorem law_run {P : Prog} {n iR iD iL nn most : Nat} {B : List IS} (hR : P.fns[iR]? = some ⟨2, 4, irRounds iD⟩) (hD : P.fns[iD]? = some ⟨1, 1, irDice⟩)
    (hL : P.fns[iL]? = some ⟨1, nn, [(.forS (.var 1) (.seq (.call iR [(.var 0), (.con (.int most))])) B), (.ret (.con (.bl true)))]⟩) (hn : 1 < nn) (hmost : most ≤ 60) {E : Nat} (hE : 31 ≤ E)
    (hB : BodyOk (P.ctl (runF P (n + 2)) (runF P n) (n + 2)) B nn E) {m : Mem} (hm : Clo m) {script : D} {ns : List Int}
    (hs : ∀ lo hi, slcD script lo hi m = .ok (.ref m.length) (m ++ [.lst (cutD (ns.map .int) lo hi)])) (hz : ∀ z ∈ ns, z.natAbs < 2 ^ E) : ∃ m', runF P (n + 3) iL [script] m = .ok (.bl true) m' := by
  rw [runF_at hL rfl]
  obtain ⟨pre, ds, h1, h2, h3, h4⟩ := rounds_ok (n := n) hR hD hE hm hmost hs hz
  have e0 : evalE (.call iR [(.var 0), (.con (.int most))]) (P.ctl (runF P (n + 2)) (runF P (n + 2 - 2)) (n + 2)) (startE 1 nn [script]) m = .ok (.ref (m.length + pre.length + ds.length)) (m ++ pre ++ ds ++ [.lst ((List.range' (m.length + pre.length) ds.length).map .ref)]) := by
    simp only [fin_rt, fin_nx, fin_exn, seq_nx, seq_rt, seq_exn, seq_bk, seq_ct, bind_ok, bind_exn, out_ok, out_exn, tst_ok, tst_exn, gc_ok_, gc_exn, gcM_same, asB_bl, selB_t, selB_f, selE_t, selE_f, rdV_some, stT_some, e_var, e_con, e_glo, e_nop, t_bin, t_neg, t_not, t_cmp, t_cmp2, cmp2T_t, cmp2T_f, t_and, t_or, t_if, t_idx, t_tup, t_lst, t_call, t_blt, t_mth, mthT_t, es_nil, ts_cons, b_nil, tb_cons, ts_asg, ts_expr, ts_if, ts_ret, s_rais, seqT_nx, seqT_rt, seqT_exn, seqT_bk, seqT_ct, bindT_ok, bindT_exn, outT_ok, outT_exn, tstT_ok, tstT_exn, asBT_bl, c_eqI, c_neI, c_ltI, c_leI, c_gtI, c_geI, o_addI, o_subI, n_I, abs_N, ix_tup, lift_some, at0, at1, at2, at3, asT_var, asT_tup, asTs_nil, asTs_cons, ctl_call, List.getElem?_cons_zero, List.getElem?_cons_succ, List.set_cons_zero, List.set_cons_succ, List.length_cons, List.length_nil, List.map_cons, List.map_nil, List.cons_append, List.nil_append, List.replicate_succ, List.replicate_zero, Nat.reduceAdd, Nat.reduceSub, Nat.reduceLT, Nat.reduceLeDiff, sz, Option.bind_some, Option.bind_none, Option.map_some, Bool.false_eq_true, if_true, if_false, reduceIte, Nat.zero_add, startE, Bool.not_true, Bool.not_false, decide_true, decide_false, h4]
  obtain ⟨m1, hm1⟩ : ∃ m1, m1 = m ++ pre ++ ds ++ [Cell.lst ((List.range' (m.length + pre.length) ds.length).map .ref)] := ⟨_, rfl⟩
  rw [← hm1] at e0 h3
  have hr : m1[m.length + pre.length + ds.length]? = some (.lst ((List.range' (m.length + pre.length) ds.length).map .ref)) := by
    have : m.length + pre.length + ds.length = (m ++ pre ++ ds).length := by simp only [List.length_append]
    rw [hm1, this, List.getElem?_concat_length]
  have e1 : evalI (.seq (.call iR [(.var 0), (.con (.int most))])) (P.ctl (runF P (n + 2)) (runF P (n + 2 - 2)) (n + 2)) (startE 1 nn [script]) m = .ok ((List.range' (m.length + pre.length) ds.length).map .ref, .some (m.length + pre.length + ds.length, (List.range' (m.length + pre.length) ds.length).map .ref)) m1 := by
    simp only [evalI, e0, bind_ok, seqW, hr]
  obtain ⟨env', m', e2⟩ := for_dice hB hn ds.length (m.length + pre.length) (startE 1 nn [script]) m1 (by simp [startE]; omega) h3 hr (Nat.le_refl _) (fun i h5 h6 => by
    have hi : i - (m.length + pre.length) < ds.length := by omega
    refine ⟨ds[i - (m.length + pre.length)], ?_, h1 _ (List.getElem_mem hi)⟩
    rw [hm1, List.getElem?_append_left (by simp; omega), List.getElem?_append_right (by simp; omega)]
    simp)
  refine ⟨gcM m.length (.bl true) m', ?_⟩
  have e3 : evalS (P.ctl (runF P (n + 2)) (runF P (n + 2 - 2)) (n + 2)) (.forS (.var 1) (.seq (.call iR [(.var 0), (.con (.int most))])) B) (startE 1 nn [script]) m = .nx env' m' := by
    rw [s_for, e1]
    exact e2
  show finF m.length (evalB _ [_, _] _ m) = _
  rw [b_cons, e3]
  simp only [fin_rt, fin_nx, fin_exn, seq_nx, seq_rt, seq_exn, seq_bk, seq_ct, bind_ok, bind_exn, out_ok, out_exn, tst_ok, tst_exn, gc_ok_, gc_exn, gcM_same, asB_bl, selB_t, selB_f, selE_t, selE_f, rdV_some, stT_some, e_var, e_con, e_glo, e_nop, t_bin, t_neg, t_not, t_cmp, t_cmp2, cmp2T_t, cmp2T_f, t_and, t_or, t_if, t_idx, t_tup, t_lst, t_call, t_blt, t_mth, mthT_t, es_nil, ts_cons, b_nil, tb_cons, ts_asg, ts_expr, ts_if, ts_ret, s_rais, seqT_nx, seqT_rt, seqT_exn, seqT_bk, seqT_ct, bindT_ok, bindT_exn, outT_ok, outT_exn, tstT_ok, tstT_exn, asBT_bl, c_eqI, c_neI, c_ltI, c_leI, c_gtI, c_geI, o_addI, o_subI, n_I, abs_N, ix_tup, lift_some, at0, at1, at2, at3, asT_var, asT_tup, asTs_nil, asTs_cons, ctl_call, List.getElem?_cons_zero, List.getElem?_cons_succ, List.set_cons_zero, List.set_cons_succ, List.length_cons, List.length_nil, List.map_cons, List.map_nil, List.cons_append, List.nil_append, List.replicate_succ, List.replicate_zero, Nat.reduceAdd, Nat.reduceSub, Nat.reduceLT, Nat.reduceLeDiff, sz, Option.bind_some, Option.bind_none, Option.map_some, Bool.false_eq_true, if_true, if_false, reduceIte, Nat.zero_add, startE, Bool.not_true, Bool.not_false, decide_true, decide_false]
theorem bits_lt {E : Nat} {z : Int} (h : Builtin.Int.intBits z ≤ E) : z.natAbs < 2 ^ E := by
  unfold Builtin.Int.intBits at h
  split at h
  · rename_i h0
    have : z = 0 := by simpa using h0
    subst this
    exact Nat.two_pow_pos E
  · rename_i h0
    have : z.natAbs ≠ 0 := fun q => h0 (by simpa using q)
    exact (Nat.log2_lt this).mp (by omega)
/-- all that is left of a law: its body -/
theorem plain_of {L : LawI} {n iR iD iL nn most : Nat} {B : List IS} (hR : L.prog.fns[iR]? = some ⟨2, 4, irRounds iD⟩) (hD : L.prog.fns[iD]? = some ⟨1, 1, irDice⟩)
    (hL : L.prog.fns[iL]? = some ⟨1, nn, [(.forS (.var 1) (.seq (.call iR [(.var 0), (.con (.int most))])) B), (.ret (.con (.bl true)))]⟩) (hn : 1 < nn) (hmost : most ≤ 60)
    (hB : ∀ E, 31 ≤ E → E ≤ 134217700 → BodyOk (L.prog.ctl (runF L.prog (n + 2)) (runF L.prog n) (n + 2)) B nn E) : Plain L (n + 3) 63 iL := by
  intro ns _ hb
  obtain ⟨E, hE⟩ : ∃ E, E = 1048576 := ⟨_, rfl⟩
  have hz : ∀ z ∈ ns, z.natAbs < 2 ^ E := fun z h => bits_lt (by rw [hE]; exact hb z h)
  have h1 : 31 ≤ E := by omega
  have h2 : E ≤ 134217700 := by omega
  refine ⟨law_run hR hD hL hn hmost h1 (hB E h1 h2) (m := []) (fun c h => by simp at h) (fun lo hi => rfl) hz, law_run hR hD hL hn hmost h1 (hB E h1 h2) (m := [.lst (ns.map .int)]) (fun c h => ?_) (fun lo hi => rfl) hz⟩
  rw [List.mem_singleton.mp h]
  exact ints_undr ns
end Dat

/-! Dat24 -/
set_option linter.all false
/-! Dat24: closed calls by the kernel. -/
namespace Dat
open PySem L2
def resIs (r : Res D) (v : D) : Bool := match r with
  | .ok d [] => D.beq d v
  | _ => false
theorem resIs_ok {r : Res D} {v : D} (h : resIs r v = true) : r = .ok v [] := by
  unfold resIs at h
  split at h
  · rw [(D.beq_iff _ _).mp h]
  · cases h
def resEx (r : Res D) (c : Str) : Bool := match r with
  | .exn k none _ => decide (k = c)
  | _ => false
/-- what is raised leaves its lists behind: the memory is not [] -/
theorem resEx_ok {r : Res D} {c : Str} (h : resEx r c = true) : ∃ m, r = .exn c none m := by
  unfold resEx at h
  split at h
  · exact ⟨_, by rw [of_decide_eq_true h]⟩
  · cases h
theorem run_exn' {m0 : Mem} (hc : Clo m0) {P : Prog} (ok : okP P = true) {n f : Nat} {ds : List D} {c : Str} (hd : D.undrL 0 ds = true) (h : resEx (runF P n f ds []) c = true) : ∃ m', runF P n f ds m0 = .exn c none (m0 ++ m') := by
  obtain ⟨m, e1⟩ := resEx_ok h
  have e := run_sh hc ok n f ds []
  rw [shL_con ds hd, e1] at e
  exact ⟨_, by simpa [frR, frM] using e⟩
theorem run_at' {m0 : Mem} (hc : Clo m0) {P : Prog} (ok : okP P = true) {n f : Nat} {ds : List D} {v : D} (hd : D.undrL 0 ds = true) (h : resIs (runF P n f ds []) v = true) (hv : D.undr 0 v = true) : runF P n f ds m0 = .ok v m0 := run_at hc ok hd (resIs_ok h) hv
theorem floor_ok {P : Prog} {f n : Nat} {m : Mem} (hf : P.fns[f]? = some ⟨1, 1, irFloor⟩) {q : Rat} (hq : Sz q) : runF P (n + 1) f [encQ q] m = .ok (.int (q.num / q.den)) m := by
  rw [runF_at hf rfl]
  have g : DivG q.num q.den := divG_of (den_ne q) (by
    rw [Int.natAbs_natCast]
    exact Nat.lt_of_lt_of_le hq.2 (Nat.pow_le_pow_right (by decide) (by decide)))
  rw [← Int.fdiv_eq_ediv_of_nonneg _ (Int.natCast_nonneg _)]
  simp only [fin_rt, fin_nx, fin_exn, seq_nx, seq_rt, seq_exn, seq_bk, seq_ct, bind_ok, bind_exn, out_ok, out_exn, tst_ok, tst_exn, gc_ok_, gc_exn, gcM_same, asB_bl, selB_t, selB_f, selE_t, selE_f, rdV_some, stT_some, e_var, e_con, e_glo, e_nop, t_bin, t_neg, t_not, t_cmp, t_cmp2, cmp2T_t, cmp2T_f, t_and, t_or, t_if, t_idx, t_tup, t_lst, t_call, t_blt, t_mth, mthT_t, es_nil, ts_cons, b_nil, tb_cons, ts_asg, ts_expr, ts_if, ts_ret, s_rais, seqT_nx, seqT_rt, seqT_exn, seqT_bk, seqT_ct, bindT_ok, bindT_exn, outT_ok, outT_exn, tstT_ok, tstT_exn, asBT_bl, c_eqI, c_neI, c_ltI, c_leI, c_gtI, c_geI, o_addI, o_subI, n_I, abs_N, ix_tup, lift_some, at0, at1, at2, at3, asT_var, asT_tup, asTs_nil, asTs_cons, ctl_call, List.getElem?_cons_zero, List.getElem?_cons_succ, List.set_cons_zero, List.set_cons_succ, List.length_cons, List.length_nil, List.map_cons, List.map_nil, List.cons_append, List.nil_append, List.replicate_succ, List.replicate_zero, Nat.reduceAdd, Nat.reduceSub, Nat.reduceLT, Nat.reduceLeDiff, sz, Option.bind_some, Option.bind_none, Option.map_some, Bool.false_eq_true, if_true, if_false, reduceIte, Nat.zero_add, startE, Bool.not_true, Bool.not_false, decide_true, decide_false, irFloor, encQ, o_divI g]
end Dat

/-! Dat25 -/
set_option linter.all false
set_option maxRecDepth 100000
set_option maxHeartbeats 4000000
/-! Dat25: a name that is not read does not matter. -/
namespace Dat
open PySem L2
mutual
def nvT (v : Nat) : Tg → Bool
  | .var i => decide (i ≠ v)
  | .tup l => nvTs v l
def nvTs (v : Nat) : List Tg → Bool
  | [] => true
  | t :: l => nvT v t && nvTs v l
end
mutual
def nvE (v : Nat) : IE → Bool
  | .var i => decide (i ≠ v)
  | .con _ => true
  | .glo _ _ => true
  | .nop => true
  | .bin _ a b => nvE v a && nvE v b
  | .neg a => nvE v a
  | .notE a => nvE v a
  | .cmp _ a b => nvE v a && nvE v b
  | .cmp2 _ _ a b c => nvE v a && (nvE v b && nvE v c)
  | .andE a b => nvE v a && nvE v b
  | .orE a b => nvE v a && nvE v b
  | .ifE a b c => nvE v a && (nvE v b && nvE v c)
  | .idx a b => nvE v a && nvE v b
  | .slc _ _ a b c => nvE v a && (nvE v b && nvE v c)
  | .tup l => nvEs v l
  | .lst l => nvEs v l
  | .call _ l => nvEs v l
  | .blt _ l => nvEs v l
  | .mth _ o l => nvE v o && nvEs v l
  | .comp tg it c e own => (nvT v tg && decide (v ∉ own)) && (nvI v it && (nvE v c && nvE v e))
  | .comp2 .. => false
  | .told _ e => nvE v e
  | .lrev e => nvE v e
  | .anyNI e => nvE v e
  | .isT e => nvE v e
  | .anyL _ => false
def nvEs (v : Nat) : List IE → Bool
  | [] => true
  | e :: l => nvE v e && nvEs v l
def nvI (v : Nat) : II → Bool
  | .seq e => nvE v e
  | .rng1 l => nvEs v l
  | .rng l => nvEs v l
  | .rev e => nvE v e
  | .enm e => nvE v e
  | .zip l => nvEs v l
end
mutual
def nvS (v : Nat) : IS → Bool
  | .expr e => nvE v e
  | .asg t e => nvT v t && nvE v e
  | .aug i _ e => decide (i ≠ v) && nvE v e
  | .setI o i e => nvE v o && (nvE v i && nvE v e)
  | .ifS c a b => nvE v c && (nvB v a && nvB v b)
  | .whl c b => nvE v c && nvB v b
  | .forS t it b => nvT v t && (nvI v it && nvB v b)
  | .ret e => nvE v e
  | .retN => true
  | .rais _ => true
  | .pass => true
  | .brk => true
  | .cnt => true
  | .fgt _ => false
  | .set2 .. => false
def nvB (v : Nat) : List IS → Bool
  | [] => true
  | s :: r => nvS v s && nvB v r
end
section
variable {v : Nat} {x : Option D}
theorem wipe_nv : ∀ (own : List Nat) (env : EnvD), v ∉ own → wipeE (env.set v x) own = (wipeE env own).set v x
  | [], env, _ => rfl
  | w :: ws, env, h => by
    simp only [List.mem_cons, not_or] at h
    simp only [wipeE]
    rw [wipe_nv ws env h.2, List.set_comm _ _ h.1]
mutual
theorem asgT_nv {m : Mem} : ∀ (t : Tg) (d : D) (env : EnvD), nvT v t = true → asgT m t d (env.set v x) = (asgT m t d env).map (fun e => e.set v x)
  | .var i, d, env, h => by
    simp only [nvT, decide_eq_true_eq] at h
    simp only [asgT, List.length_set]
    split
    · simp only [Option.map_some]
      rw [List.set_comm _ _ (Ne.symm h)]
    · rfl
  | .tup ts, d, env, h => by
    simp only [nvT] at h
    simp only [asgT]
    cases seqD m d with
    | none => rfl
    | some ds => exact asgTs_nv ts ds env h
theorem asgTs_nv {m : Mem} : ∀ (t : List Tg) (d : List D) (env : EnvD), nvTs v t = true → asgTs m t d (env.set v x) = (asgTs m t d env).map (fun e => e.set v x)
  | [], [], env, _ => by simp [asgTs]
  | [], _ :: _, env, _ => by simp [asgTs]
  | _ :: _, [], env, _ => by simp [asgTs]
  | t :: ts, d :: ds, env, h => by
    simp only [nvTs, Bool.and_eq_true] at h
    simp only [asgTs]
    rw [asgT_nv t d env h.1]
    cases asgT m t d env with
    | none => rfl
    | some e => exact asgTs_nv ts ds e h.2
end
mutual
theorem evE_nv : ∀ (e : IE), nvE v e = true → ∀ (C : Ctl) (env : EnvD) (m : Mem), evalE e C (env.set v x) m = evalE e C env m
  | .var i, h, C, env, m => by
    simp only [nvE, decide_eq_true_eq] at h
    rw [e_var, e_var, List.getElem?_set_ne (Ne.symm h)]
  | .con d, _, C, env, m => by simp only [e_con]
  | .glo y d, _, C, env, m => by simp only [e_glo]
  | .nop, _, C, env, m => by simp only [e_nop]
  | .bin op a b, h, C, env, m => by
    simp only [nvE, Bool.and_eq_true] at h
    simp only [e_bin, evE_nv a h.1, evE_nv b h.2]
  | .neg a, h, C, env, m => by
    simp only [nvE] at h
    simp only [e_neg, evE_nv a h]
  | .notE a, h, C, env, m => by
    simp only [nvE] at h
    simp only [e_not, evE_nv a h]
  | .cmp op a b, h, C, env, m => by
    simp only [nvE, Bool.and_eq_true] at h
    simp only [e_cmp, evE_nv a h.1, evE_nv b h.2]
  | .cmp2 o1 o2 a b c, h, C, env, m => by
    simp only [nvE, Bool.and_eq_true] at h
    simp only [e_cmp2, evE_nv a h.1, evE_nv b h.2.1, evE_nv c h.2.2]
  | .andE a b, h, C, env, m => by
    simp only [nvE, Bool.and_eq_true] at h
    simp only [e_and, selE, e_con, evE_nv a h.1, evE_nv b h.2]
  | .orE a b, h, C, env, m => by
    simp only [nvE, Bool.and_eq_true] at h
    simp only [e_or, selE, e_con, evE_nv a h.1, evE_nv b h.2]
  | .ifE a b c, h, C, env, m => by
    simp only [nvE, Bool.and_eq_true] at h
    simp only [e_if, selE, evE_nv a h.1, evE_nv b h.2.1, evE_nv c h.2.2]
  | .idx a b, h, C, env, m => by
    simp only [nvE, Bool.and_eq_true] at h
    simp only [e_idx, evE_nv a h.1, evE_nv b h.2]
  | .slc bl bh a lo hi, h, C, env, m => by
    simp only [nvE, Bool.and_eq_true] at h
    simp only [evalE, evE_nv a h.1, evE_nv lo h.2.1, evE_nv hi h.2.2]
  | .tup l, h, C, env, m => by
    simp only [nvE] at h
    simp only [e_tup, evEs_nv l h]
  | .lst l, h, C, env, m => by
    simp only [nvE] at h
    simp only [e_lst, evEs_nv l h]
  | .call f l, h, C, env, m => by
    simp only [nvE] at h
    simp only [e_call, evEs_nv l h]
  | .blt b l, h, C, env, m => by
    simp only [nvE] at h
    simp only [e_blt, evEs_nv l h]
  | .mth q o l, h, C, env, m => by
    simp only [nvE, Bool.and_eq_true] at h
    simp only [e_mth, evE_nv o h.1, evEs_nv l h.2]
  | .comp tg it c e own, h, C, env, m => by
    simp only [nvE, Bool.and_eq_true, decide_eq_true_eq] at h
    simp only [evalE, evI_nv it h.2.1, wipe_nv own env h.1.2, asgT_nv tg _ _ h.1.1]
    congr 1
    funext I m1
    congr 2
    funext d m2
    cases asgT m2 tg d (wipeE env own) with
    | none => rfl
    | some env2 => simp only [Option.map_some, evE_nv c h.2.2.1, evE_nv e h.2.2.2]
  | .comp2 .., h, _, _, _ => by simp [nvE] at h
  | .anyL _, h, _, _, _ => by simp [nvE] at h
  | .told f e, h, C, env, m => by
    simp only [nvE] at h
    simp only [evalE, evE_nv e h]
  | .anyNI e, h, C, env, m => by
    simp only [nvE] at h
    simp only [evalE, evE_nv e h]
  | .isT e, h, C, env, m => by
    simp only [nvE] at h
    simp only [evalE, evE_nv e h]
  | .lrev e, h, C, env, m => by
    simp only [nvE] at h
    simp only [evalE, evE_nv e h]
theorem evEs_nv : ∀ (l : List IE), nvEs v l = true → ∀ (C : Ctl) (env : EnvD) (m : Mem), evalEs l C (env.set v x) m = evalEs l C env m
  | [], _, C, env, m => by simp only [es_nil]
  | e :: l, h, C, env, m => by
    simp only [nvEs, Bool.and_eq_true] at h
    simp only [es_cons, evE_nv e h.1, evEs_nv l h.2]
theorem evI_nv : ∀ (it : II), nvI v it = true → ∀ (C : Ctl) (env : EnvD) (m : Mem), evalI it C (env.set v x) m = evalI it C env m
  | .seq e, h, C, env, m => by
    simp only [nvI] at h
    simp only [evalI, evE_nv e h]
  | .rng1 l, h, C, env, m => by
    simp only [nvI] at h
    simp only [evalI, evEs_nv l h]
  | .rng l, h, C, env, m => by
    simp only [nvI] at h
    simp only [evalI, evEs_nv l h]
  | .rev e, h, C, env, m => by
    simp only [nvI] at h
    simp only [evalI, evE_nv e h]
  | .enm e, h, C, env, m => by
    simp only [nvI] at h
    simp only [evalI, evE_nv e h]
  | .zip l, h, C, env, m => by
    simp only [nvI] at h
    simp only [evalI, evEs_nv l h]
end
def Out.setV (v : Nat) (x : Option D) : Out → Out
  | .nx env m => .nx (env.set v x) m
  | .bk env m => .bk (env.set v x) m
  | .ct env m => .ct (env.set v x) m
  | .rt d m => .rt d m
  | .exn c p env m => .exn c p (env.set v x) m
  | .stuck => .stuck
theorem out_nv {α : Type} {r : Res α} {env : EnvD} {f g : α → Mem → Out} (h : ∀ a m, g a m = (f a m).setV v x) : r.out (env.set v x) g = (r.out env f).setV v x := by
  cases r with
  | ok a m => exact h a m
  | _ => rfl
theorem tst_nv {r : Res D} {env : EnvD} {n : Nat} {f g : Bool → Mem → Out} (h : ∀ b m, g b m = (f b m).setV v x) : tstO (env.set v x) r n g = (tstO env r n f).setV v x := by
  unfold tstO
  refine out_nv fun a m => ?_
  cases a with
  | bl b => exact h b m
  | _ => rfl
theorem seq_nv {o : Out} {f g : EnvD → Mem → Out} (h : ∀ e m, g (e.set v x) m = (f e m).setV v x) : (o.setV v x).seq g = (o.seq f).setV v x := by
  cases o with
  | nx e m => exact h e m
  | _ => rfl
theorem while_nv {c : EnvD → Mem → Res D} {b : EnvD → Mem → Out} (h1 : ∀ e m, c (e.set v x) m = c e m) (h2 : ∀ e m, b (e.set v x) m = (b e m).setV v x) :
    ∀ (n : Nat) (e : EnvD) (m : Mem), whileN c b n (e.set v x) m = (whileN c b n e m).setV v x
  | 0, _, _ => rfl
  | n + 1, e, m => by
    rw [while_succ, while_succ, h1]
    refine tst_nv fun t m1 => ?_
    cases t with
    | false => rfl
    | true =>
      simp only [if_true]
      rw [h2]
      cases b e m1 with
      | nx e m2 => exact while_nv h1 h2 n e m2
      | ct e m2 => exact while_nv h1 h2 n e m2
      | _ => rfl
theorem for_nv {o : Wch} {t : Tg} {b : EnvD → Mem → Out} (ht : nvT v t = true) (h2 : ∀ e m, b (e.set v x) m = (b e m).setV v x) :
    ∀ (l : List D) (e : EnvD) (m : Mem), forL o t b l (e.set v x) m = (forL o t b l e m).setV v x
  | [], e, m => by
    simp only [forL]
    split <;> rfl
  | d :: l, e, m => by
    simp only [forL, asgT_nv t d e ht]
    split
    · cases asgT m t d e with
      | none => rfl
      | some e1 =>
        simp only [Option.map_some]
        rw [h2]
        cases b e1 m with
        | nx e m2 => exact for_nv ht h2 l e m2
        | ct e m2 => exact for_nv ht h2 l e m2
        | _ => rfl
    · rfl
mutual
theorem evS_nv : ∀ (s : IS), nvS v s = true → ∀ (C : Ctl) (env : EnvD) (m : Mem), evalS C s (env.set v x) m = (evalS C s env m).setV v x
  | .expr e, h, C, env, m => by
    simp only [nvS] at h
    rw [s_expr, s_expr, evE_nv e h]
    exact out_nv fun a m1 => rfl
  | .asg t e, h, C, env, m => by
    simp only [nvS, Bool.and_eq_true] at h
    rw [s_asg, s_asg, evE_nv e h.2]
    refine out_nv fun a m1 => ?_
    rw [asgT_nv t a env h.1]
    cases asgT m1 t a env <;> rfl
  | .aug i op e, h, C, env, m => by
    simp only [nvS, Bool.and_eq_true, decide_eq_true_eq] at h
    simp only [evalS]
    rw [List.getElem?_set_ne (Ne.symm h.1)]
    cases hi : env[i]? with
    | none => rfl
    | some o =>
      cases o with
      | none => rfl
      | some y =>
        simp only
        rw [evE_nv e h.2]
        refine out_nv fun z m2 => ?_
        rw [List.set_comm _ _ (Ne.symm h.1)] <;> rfl
  | .setI o i e, h, C, env, m => by
    simp only [nvS, Bool.and_eq_true] at h
    simp only [evalS, evE_nv o h.1, evE_nv i h.2.1, evE_nv e h.2.2]
    exact out_nv fun a m1 => rfl
  | .ifS c a b, h, C, env, m => by
    simp only [nvS, Bool.and_eq_true] at h
    rw [s_if, s_if, evE_nv c h.1]
    refine tst_nv fun t m1 => ?_
    cases t with
    | true => exact evB_nv a h.2.1 C env m1
    | false => exact evB_nv b h.2.2 C env m1
  | .whl c b, h, C, env, m => by
    simp only [nvS, Bool.and_eq_true] at h
    rw [s_whl, s_whl]
    exact while_nv (fun e m => evE_nv c h.1 C e m) (fun e m => evB_nv b h.2 C e m) _ _ _
  | .forS t it b, h, C, env, m => by
    simp only [nvS, Bool.and_eq_true] at h
    rw [s_for, s_for, evI_nv it h.2.1]
    exact out_nv fun I m1 => for_nv h.1 (fun e m => evB_nv b h.2.2 C e m) I.1 env m1
  | .ret e, h, C, env, m => by
    simp only [nvS] at h
    rw [s_ret, s_ret, evE_nv e h]
    exact out_nv fun a m1 => rfl
  | .retN, _, C, env, m => by simp only [evalS]; rfl
  | .rais c, _, C, env, m => by simp only [evalS]; rfl
  | .pass, _, C, env, m => by simp only [evalS]; rfl
  | .brk, _, C, env, m => by simp only [evalS]; rfl
  | .cnt, _, C, env, m => by simp only [evalS]; rfl
  | .fgt _, h, _, _, _ => by simp [nvS] at h
  | .set2 .., h, _, _, _ => by simp [nvS] at h
theorem evB_nv : ∀ (l : List IS), nvB v l = true → ∀ (C : Ctl) (env : EnvD) (m : Mem), evalB C l (env.set v x) m = (evalB C l env m).setV v x
  | [], _, C, env, m => by simp only [b_nil]; rfl
  | s :: r, h, C, env, m => by
    simp only [nvB, Bool.and_eq_true] at h
    rw [b_cons, b_cons, evS_nv s h.1]
    exact seq_nv fun e m1 => evB_nv r h.2 C e m1
end
end
/-- names that hold no place -/
def EnvD.closed (env : EnvD) : Bool := env.all fun o => match o with
  | some d => D.undr 0 d
  | none => true
theorem closed_sh {k : Nat} {env : EnvD} (h : env.closed = true) : EnvD.sh k env = env := by
  unfold EnvD.sh
  refine (List.map_congr_left fun o ho => ?_).trans (List.map_id env)
  have := List.all_eq_true.mp h o ho
  cases o with
  | none => rfl
  | some d => simp only [Option.map_some, sh_con d this]; rfl
/-- what a run says beside other memory -/
theorem ctl_fr {m0 : Mem} (hc : Clo m0) {P : Prog} (ok : okP P = true) (n : Nat) : CtlFr m0 (P.ctl (runF P n) (runF P (n - 2)) n) (P.ctl (runF P n) (runF P (n - 2)) n) :=
  ⟨fun f ds m => run_sh hc ok n f ds m, fun f ds m => run_sh hc ok (n - 2) f ds m, rfl, rfl, rfl⟩
/-- suites whose names are closed but for one, which is not read: what comes at no memory comes beside any -/
theorem body_rt {m0 : Mem} (hc : Clo m0) {P : Prog} (ok : okP P = true) {n v : Nat} {l : List IS} {env : EnvD} (hl : okB l = true) (hv : nvB v l = true) (he : EnvD.closed (env.set v none) = true) {d : D} (hd : D.undr 0 d = true)
    (h : evalB (P.ctl (runF P n) (runF P (n - 2)) n) l (env.set v none) [] = .rt d []) : evalB (P.ctl (runF P n) (runF P (n - 2)) n) l env m0 = .rt d m0 := by
  have e := frB hc l hl _ _ (env.set v none) [] (ctl_fr hc ok n)
  rw [closed_sh he, h] at e
  have e2 : evalB (P.ctl (runF P n) (runF P (n - 2)) n) l (env.set v none) m0 = .rt d m0 := by
    have : frM m0 [] = m0 := by simp [frM]
    rw [this] at e
    rw [e]
    simp only [frO, sh_con d hd, this]
  rw [evB_nv l hv] at e2
  cases q : evalB (P.ctl (runF P n) (runF P (n - 2)) n) l env m0 <;> rw [q] at e2 <;> simp [Out.setV] at e2
  rw [e2.1, e2.2]
theorem body_nx {m0 : Mem} (hc : Clo m0) {P : Prog} (ok : okP P = true) {n v : Nat} {l : List IS} {env env1 : EnvD} (hl : okB l = true) (hv : nvB v l = true) (he : EnvD.closed (env.set v none) = true) (h1 : EnvD.closed env1 = true)
    (h : evalB (P.ctl (runF P n) (runF P (n - 2)) n) l (env.set v none) [] = .nx env1 []) {y : Option D} (hy : env[v]? = some y) : evalB (P.ctl (runF P n) (runF P (n - 2)) n) l env m0 = .nx (env1.set v y) m0 := by
  have e := frB hc l hl _ _ (env.set v none) [] (ctl_fr hc ok n)
  rw [closed_sh he, h] at e
  have z : frM m0 [] = m0 := by simp [frM]
  rw [z] at e
  have e2 := evB_nv (v := v) (x := y) l hv (P.ctl (runF P n) (runF P (n - 2)) n) (env.set v none) m0
  rw [e] at e2
  have e3 : (env.set v none).set v y = env := by
    rw [List.set_set]
    apply List.ext_getElem?
    intro i
    by_cases hi : v = i
    · subst hi
      rw [List.getElem?_set_self (List.getElem?_eq_some_iff.mp hy).1, hy]
    · rw [List.getElem?_set_ne hi]
  rw [e3] at e2
  rw [e2]
  simp only [frO, Out.setV, z, closed_sh h1]
end Dat

/-! L31 -/
set_option linter.all false
set_option maxRecDepth 100000
set_option maxHeartbeats 0
namespace Dat.K31
open PySem PySem.Spec L2 PyProof.Rows Dat
def top (i : Nat) : Stmt := PySem.Challenge.pw_realhall_k31_refusals_apart.main.body.getD i (.Pass ⟨0, 0, 0, 0⟩)
def fnsT0 : List (Str × List Str) := [("_wall", ["k"]), ("shared", ["a", "b"]), ("made", ["top", "bottom"]), ("add", ["a", "b"]), ("less", ["a", "b"]), ("times", ["a", "b"]), ("over", ["a", "b"]), ("turned", ["a"]), ("sign", ["a"]), ("order", ["a", "b"]), ("least", ["row"]), ("greatest", ["row"]), ("raised", ["a", "many"]), ("root_floor", ["number"]), ("at", ["a"]), ("plus", ["x", "y"]), ("minus", ["x", "y"]), ("negative", ["x"]), ("product", ["x", "y"]), ("quotient", ["x", "y"]), ("power", ["x", "many"]), ("root", ["x", "fine"]), ("root_below", ["a", "fine"]), ("root_above", ["a", "fine"]), ("two_to", ["many"])]
def fnsT1 : List (Str × List Str) := [("holds", ["x", "a"]), ("inside", ["x", "y"]), ("middle", ["x"]), ("halves", ["x"]), ("sign_of", ["x"]), ("is_term", ["thing"]), ("check_term", ["thing"]), ("number", ["top"]), ("value", ["term", "a"]), ("bounded", ["term", "x", "fine"]), ("slope", ["term"]), ("plain", ["term"]), ("power_plain", ["term", "many"]), ("told", ["term"]), ("narrowed", ["term", "x"]), ("kind_of", ["term", "x"]), ("parted", ["term", "x", "deep"]), ("look_rows", ["term", "x", "rows"]), ("counted", ["term", "x", "deep"]), ("repeats", ["number", "most"]), ("_law_dice", ["cell"]), ("_law_roll", ["dice", "many"]), ("_law_rounds", ["script", "most"]), ("_law_told", ["what"]), ("law", ["script"])]
def fnsT : List (Str × List Str) := fnsT0 ++ fnsT1
def toldT : List (Nat × List (Str × Str)) := []
def exsT : List Str := ["RealFault", "BadNumber", "BadTerm", "NoWay", "TooLarge", "BadDeed"]
def subsT0 : List ((Str × Str) × Bool) := []
def subsT : List ((Str × Str) × Bool) := subsT0
def glosT : List (Str × D) := [("FINE", D.int 30)]
def ir__wall : List IS := [(.whl (.con (.bl true)) [.pass])]
def d__wall : DefI := ⟨"_wall", ["k"], defArgs (top 0), defBody (top 0), defScope (top 0), ["k"], false, false, false, some ir__wall⟩
def ir_shared : List IS := [(.whl (.cmp .NotEq (.var 1) (.con (.int 0))) [(.asg (.tup [(.var 0), (.var 1)]) (.tup [(.var 1), (.bin .Mod (.var 0) (.var 1))]))]), (.ret (.blt .abs [(.var 0)]))]
def d_shared : DefI := ⟨"shared", ["a", "b"], defArgs (top 10), defBody (top 10), defScope (top 10), ["a", "b"], false, false, false, some ir_shared⟩
def ir_made : List IS := [(.ifS (.cmp .Eq (.var 1) (.con (.int 0))) [(.rais "BadNumber")] []), (.ifS (.cmp .Lt (.var 1) (.con (.int 0))) [(.asg (.tup [(.var 0), (.var 1)]) (.tup [(.neg (.var 0)), (.neg (.var 1))]))] []), (.asg (.var 2) (.call 1 [(.var 0), (.var 1)])), (.ret (.tup [(.bin .FloorDiv (.var 0) (.var 2)), (.bin .FloorDiv (.var 1) (.var 2))]))]
def d_made : DefI := ⟨"made", ["top", "bottom"], defArgs (top 11), defBody (top 11), defScope (top 11), ["top", "bottom", "both"], false, false, false, some ir_made⟩
def ir_add : List IS := [(.ret (.call 2 [(.bin .Add (.bin .Mult (.idx (.var 0) (.con (.int 0))) (.idx (.var 1) (.con (.int 1)))) (.bin .Mult (.idx (.var 1) (.con (.int 0))) (.idx (.var 0) (.con (.int 1))))), (.bin .Mult (.idx (.var 0) (.con (.int 1))) (.idx (.var 1) (.con (.int 1))))]))]
def d_add : DefI := ⟨"add", ["a", "b"], defArgs (top 12), defBody (top 12), defScope (top 12), ["a", "b"], false, false, false, some ir_add⟩
def ir_less : List IS := [(.ret (.call 2 [(.bin .Sub (.bin .Mult (.idx (.var 0) (.con (.int 0))) (.idx (.var 1) (.con (.int 1)))) (.bin .Mult (.idx (.var 1) (.con (.int 0))) (.idx (.var 0) (.con (.int 1))))), (.bin .Mult (.idx (.var 0) (.con (.int 1))) (.idx (.var 1) (.con (.int 1))))]))]
def d_less : DefI := ⟨"less", ["a", "b"], defArgs (top 13), defBody (top 13), defScope (top 13), ["a", "b"], false, false, false, some ir_less⟩
def ir_times : List IS := [(.ret (.call 2 [(.bin .Mult (.idx (.var 0) (.con (.int 0))) (.idx (.var 1) (.con (.int 0)))), (.bin .Mult (.idx (.var 0) (.con (.int 1))) (.idx (.var 1) (.con (.int 1))))]))]
def d_times : DefI := ⟨"times", ["a", "b"], defArgs (top 14), defBody (top 14), defScope (top 14), ["a", "b"], false, false, false, some ir_times⟩
def ir_over : List IS := [(.ret (.call 2 [(.bin .Mult (.idx (.var 0) (.con (.int 0))) (.idx (.var 1) (.con (.int 1)))), (.bin .Mult (.idx (.var 0) (.con (.int 1))) (.idx (.var 1) (.con (.int 0))))]))]
def d_over : DefI := ⟨"over", ["a", "b"], defArgs (top 15), defBody (top 15), defScope (top 15), ["a", "b"], false, false, false, some ir_over⟩
def ir_turned : List IS := [(.ret (.tup [(.neg (.idx (.var 0) (.con (.int 0)))), (.idx (.var 0) (.con (.int 1)))]))]
def d_turned : DefI := ⟨"turned", ["a"], defArgs (top 16), defBody (top 16), defScope (top 16), ["a"], false, false, false, some ir_turned⟩
def ir_sign : List IS := [(.ret (.bin .Sub (.cmp .Gt (.idx (.var 0) (.con (.int 0))) (.con (.int 0))) (.cmp .Lt (.idx (.var 0) (.con (.int 0))) (.con (.int 0)))))]
def d_sign : DefI := ⟨"sign", ["a"], defArgs (top 17), defBody (top 17), defScope (top 17), ["a"], false, false, false, some ir_sign⟩
def ir_order : List IS := [(.ret (.call 8 [(.call 4 [(.var 0), (.var 1)])]))]
def d_order : DefI := ⟨"order", ["a", "b"], defArgs (top 18), defBody (top 18), defScope (top 18), ["a", "b"], false, false, false, some ir_order⟩
def ir_least : List IS := [(.asg (.var 1) (.idx (.var 0) (.con (.int 0)))), (.forS (.var 2) (.seq (.var 0)) [(.ifS (.cmp .Lt (.call 9 [(.var 2), (.var 1)]) (.con (.int 0))) [(.asg (.var 1) (.var 2))] [])]), (.ret (.var 1))]
def d_least : DefI := ⟨"least", ["row"], defArgs (top 19), defBody (top 19), defScope (top 19), ["row", "found", "one"], false, false, false, some ir_least⟩
def ir_greatest : List IS := [(.ret (.call 7 [(.call 10 [(.comp (.var 1) (.seq (.var 0)) (.con (.bl true)) (.call 7 [(.var 1)]) [1])])]))]
def d_greatest : DefI := ⟨"greatest", ["row"], defArgs (top 20), defBody (top 20), defScope (top 20), ["row", "one"], false, false, false, some ir_greatest⟩
def ir_raised : List IS := [(.ifS (.cmp .Lt (.var 1) (.con (.int 0))) [(.asg (.tup [(.var 0), (.var 1)]) (.tup [(.call 6 [(.tup [(.con (.int 1)), (.con (.int 1))]), (.var 0)]), (.neg (.var 1))]))] []), (.asg (.var 2) (.tup [(.con (.int 1)), (.con (.int 1))])), (.forS (.var 3) (.rng1 [(.var 1)]) [(.asg (.var 2) (.call 5 [(.var 2), (.var 0)]))]), (.ret (.var 2))]
def d_raised : DefI := ⟨"raised", ["a", "many"], defArgs (top 21), defBody (top 21), defScope (top 21), ["a", "many", "found", "k"], false, false, false, some ir_raised⟩
def ir_root_floor : List IS := [(.ifS (.cmp .Lt (.var 0) (.con (.int 0))) [(.rais "BadNumber")] []), (.ifS (.cmp .Eq (.var 0) (.con (.int 0))) [(.ret (.con (.int 0)))] []), (.asg (.var 1) (.con (.int 1))), (.whl (.cmp .LtE (.bin .Mult (.var 1) (.var 1)) (.var 0)) [(.aug 1 .Mult (.con (.int 2)))]), (.whl (.con (.bl true)) [(.asg (.var 2) (.bin .FloorDiv (.bin .Add (.var 1) (.bin .FloorDiv (.var 0) (.var 1))) (.con (.int 2)))), (.ifS (.cmp .GtE (.var 2) (.var 1)) [(.ret (.var 1))] []), (.asg (.var 1) (.var 2))])]
def d_root_floor : DefI := ⟨"root_floor", ["number"], defArgs (top 22), defBody (top 22), defScope (top 22), ["number", "here", "after"], false, false, false, some ir_root_floor⟩
def ir_at : List IS := [(.ret (.tup [(.var 0), (.var 0)]))]
def d_at : DefI := ⟨"at", ["a"], defArgs (top 24), defBody (top 24), defScope (top 24), ["a"], false, false, false, some ir_at⟩
def ir_plus : List IS := [(.ret (.tup [(.call 3 [(.idx (.var 0) (.con (.int 0))), (.idx (.var 1) (.con (.int 0)))]), (.call 3 [(.idx (.var 0) (.con (.int 1))), (.idx (.var 1) (.con (.int 1)))])]))]
def d_plus : DefI := ⟨"plus", ["x", "y"], defArgs (top 25), defBody (top 25), defScope (top 25), ["x", "y"], false, false, false, some ir_plus⟩
def ir_minus : List IS := [(.ret (.tup [(.call 4 [(.idx (.var 0) (.con (.int 0))), (.idx (.var 1) (.con (.int 1)))]), (.call 4 [(.idx (.var 0) (.con (.int 1))), (.idx (.var 1) (.con (.int 0)))])]))]
def d_minus : DefI := ⟨"minus", ["x", "y"], defArgs (top 26), defBody (top 26), defScope (top 26), ["x", "y"], false, false, false, some ir_minus⟩
def ir_negative : List IS := [(.ret (.tup [(.call 7 [(.idx (.var 0) (.con (.int 1)))]), (.call 7 [(.idx (.var 0) (.con (.int 0)))])]))]
def d_negative : DefI := ⟨"negative", ["x"], defArgs (top 27), defBody (top 27), defScope (top 27), ["x"], false, false, false, some ir_negative⟩
def ir_product : List IS := [(.asg (.var 2) (.comp2 (.var 3) (.seq (.var 0)) (.var 4) 1 (.call 5 [(.var 3), (.var 4)]) [3, 4] [4])), (.ret (.tup [(.call 10 [(.var 2)]), (.call 11 [(.var 2)])]))]
def d_product : DefI := ⟨"product", ["x", "y"], defArgs (top 28), defBody (top 28), defScope (top 28), ["x", "y", "row", "a", "b"], false, false, false, some ir_product⟩
def ir_quotient : List IS := [(.ifS (.cmp2 .LtE .LtE (.call 8 [(.idx (.var 1) (.con (.int 0)))]) (.con (.int 0)) (.call 8 [(.idx (.var 1) (.con (.int 1)))])) [(.rais "NoWay")] []), (.ret (.call 18 [(.var 0), (.tup [(.call 6 [(.tup [(.con (.int 1)), (.con (.int 1))]), (.idx (.var 1) (.con (.int 1)))]), (.call 6 [(.tup [(.con (.int 1)), (.con (.int 1))]), (.idx (.var 1) (.con (.int 0)))])])]))]
def d_quotient : DefI := ⟨"quotient", ["x", "y"], defArgs (top 29), defBody (top 29), defScope (top 29), ["x", "y"], false, false, false, some ir_quotient⟩
def ir_power : List IS := [(.ifS (.cmp .Eq (.var 1) (.con (.int 0))) [(.ret (.tup [(.tup [(.con (.int 1)), (.con (.int 1))]), (.tup [(.con (.int 1)), (.con (.int 1))])]))] []), (.asg (.tup [(.var 2), (.var 3)]) (.tup [(.call 12 [(.idx (.var 0) (.con (.int 0))), (.var 1)]), (.call 12 [(.idx (.var 0) (.con (.int 1))), (.var 1)])])), (.ifS (.cmp .Eq (.bin .Mod (.var 1) (.con (.int 2))) (.con (.int 1))) [(.ret (.tup [(.var 2), (.var 3)]))] []), (.ifS (.call 25 [(.var 0), (.tup [(.con (.int 0)), (.con (.int 1))])]) [(.ret (.tup [(.tup [(.con (.int 0)), (.con (.int 1))]), (.call 11 [(.lst [(.var 2), (.var 3)])])]))] []), (.ret (.tup [(.call 10 [(.lst [(.var 2), (.var 3)])]), (.call 11 [(.lst [(.var 2), (.var 3)])])]))]
def d_power : DefI := ⟨"power", ["x", "many"], defArgs (top 30), defBody (top 30), defScope (top 30), ["x", "many", "one", "other"], false, false, false, some ir_power⟩
def ir_root : List IS := [(.ifS (.cmp .Lt (.call 8 [(.idx (.var 0) (.con (.int 0)))]) (.con (.int 0))) [(.rais "NoWay")] []), (.ret (.tup [(.call 22 [(.idx (.var 0) (.con (.int 0))), (.var 1)]), (.call 23 [(.idx (.var 0) (.con (.int 1))), (.var 1)])]))]
def d_root : DefI := ⟨"root", ["x", "fine"], defArgs (top 31), defBody (top 31), defScope (top 31), ["x", "fine"], false, false, false, some ir_root⟩
def ir_root_below : List IS := [(.asg (.var 2) (.call 24 [(.var 1)])), (.ret (.call 2 [(.call 13 [(.bin .FloorDiv (.bin .Mult (.bin .Mult (.idx (.var 0) (.con (.int 0))) (.var 2)) (.var 2)) (.idx (.var 0) (.con (.int 1))))]), (.var 2)]))]
def d_root_below : DefI := ⟨"root_below", ["a", "fine"], defArgs (top 32), defBody (top 32), defScope (top 32), ["a", "fine", "size"], false, false, false, some ir_root_below⟩
def ir_root_above : List IS := [(.asg (.var 2) (.call 24 [(.var 1)])), (.asg (.var 3) (.neg (.bin .FloorDiv (.bin .Mult (.bin .Mult (.neg (.idx (.var 0) (.con (.int 0)))) (.var 2)) (.var 2)) (.idx (.var 0) (.con (.int 1)))))), (.asg (.var 4) (.call 13 [(.var 3)])), (.ret (.call 2 [(.ifE (.cmp .Eq (.bin .Mult (.var 4) (.var 4)) (.var 3)) (.var 4) (.bin .Add (.var 4) (.con (.int 1)))), (.var 2)]))]
def d_root_above : DefI := ⟨"root_above", ["a", "fine"], defArgs (top 33), defBody (top 33), defScope (top 33), ["a", "fine", "size", "number", "found"], false, false, false, some ir_root_above⟩
def ir_two_to : List IS := [(.asg (.var 1) (.con (.int 1))), (.forS (.var 2) (.rng1 [(.var 0)]) [(.aug 1 .Mult (.con (.int 2)))]), (.ret (.var 1))]
def d_two_to : DefI := ⟨"two_to", ["many"], defArgs (top 34), defBody (top 34), defScope (top 34), ["many", "found", "k"], false, false, false, some ir_two_to⟩
def ir_holds : List IS := [(.ret (.cmp2 .LtE .LtE (.call 9 [(.idx (.var 0) (.con (.int 0))), (.var 1)]) (.con (.int 0)) (.call 9 [(.idx (.var 0) (.con (.int 1))), (.var 1)])))]
def d_holds : DefI := ⟨"holds", ["x", "a"], defArgs (top 35), defBody (top 35), defScope (top 35), ["x", "a"], false, false, false, some ir_holds⟩
def ir_inside : List IS := [(.ret (.andE (.cmp .Lt (.call 9 [(.idx (.var 1) (.con (.int 0))), (.idx (.var 0) (.con (.int 0)))]) (.con (.int 0))) (.cmp .Lt (.call 9 [(.idx (.var 0) (.con (.int 1))), (.idx (.var 1) (.con (.int 1)))]) (.con (.int 0)))))]
def d_inside : DefI := ⟨"inside", ["x", "y"], defArgs (top 36), defBody (top 36), defScope (top 36), ["x", "y"], false, false, false, some ir_inside⟩
def ir_middle : List IS := [(.ret (.call 6 [(.call 3 [(.idx (.var 0) (.con (.int 0))), (.idx (.var 0) (.con (.int 1)))]), (.tup [(.con (.int 2)), (.con (.int 1))])]))]
def d_middle : DefI := ⟨"middle", ["x"], defArgs (top 37), defBody (top 37), defScope (top 37), ["x"], false, false, false, some ir_middle⟩
def ir_halves : List IS := [(.ret (.tup [(.tup [(.idx (.var 0) (.con (.int 0))), (.call 27 [(.var 0)])]), (.tup [(.call 27 [(.var 0)]), (.idx (.var 0) (.con (.int 1)))])]))]
def d_halves : DefI := ⟨"halves", ["x"], defArgs (top 38), defBody (top 38), defScope (top 38), ["x"], false, false, false, some ir_halves⟩
def ir_sign_of : List IS := [(.ifS (.cmp .Gt (.call 8 [(.idx (.var 0) (.con (.int 0)))]) (.con (.int 0))) [(.ret (.con (.int 1)))] []), (.ifS (.cmp .Lt (.call 8 [(.idx (.var 0) (.con (.int 1)))]) (.con (.int 0))) [(.ret (.neg (.con (.int 1))))] []), (.ret (.ifE (.cmp .Eq (.idx (.var 0) (.con (.int 0))) (.idx (.var 0) (.con (.int 1)))) (.con (.int 0)) (.con .non)))]
def d_sign_of : DefI := ⟨"sign_of", ["x"], defArgs (top 39), defBody (top 39), defScope (top 39), ["x"], false, false, false, some ir_sign_of⟩
def ir_is_term : List IS := [(.ifS (.cmp .Eq (.var 0) (.con (.str "x"))) [(.ret (.con (.bl true)))] []), (.ifS (.orE (.notE (.isT (.var 0))) (.cmp .Eq (.var 0) (.tup []))) [(.ret (.con (.bl false)))] []), (.ifS (.andE (.cmp .Eq (.idx (.var 0) (.con (.int 0))) (.con (.str "p"))) (.andE (.cmp .Eq (.blt .len [(.var 0)]) (.con (.int 2))) (.andE (.isT (.idx (.var 0) (.con (.int 1)))) (.cmp .Eq (.blt .len [(.idx (.var 0) (.con (.int 1)))]) (.con (.int 2)))))) [(.expr (.var 1000)), (.ret (.cmp .Eq (.call 2 [(.idx (.idx (.var 0) (.con (.int 1))) (.con (.int 0))), (.idx (.idx (.var 0) (.con (.int 1))) (.con (.int 1)))]) (.idx (.var 0) (.con (.int 1)))))] []), (.expr (.var 1000)), (.ifS (.andE (.cmp .In (.idx (.var 0) (.con (.int 0))) (.tup [(.con (.str "n")), (.con (.str "r"))])) (.cmp .Eq (.blt .len [(.var 0)]) (.con (.int 2)))) [(.ret (.call 30 [(.idx (.var 0) (.con (.int 1)))]))] []), (.ifS (.orE (.cmp .NotEq (.idx (.var 0) (.con (.int 0))) (.con (.str "^"))) (.orE (.cmp .NotEq (.blt .len [(.var 0)]) (.con (.int 3))) (.notE (.call 30 [(.idx (.var 0) (.con (.int 1)))])))) [(.ret (.con (.bl false)))] []), (.expr (.var 1000))]
def d_is_term : DefI := ⟨"is_term", ["thing"], defArgs (top 42), defBody (top 42), defScope (top 42), ["thing", "one"], false, true, false, some ir_is_term⟩
def ir_check_term : List IS := [(.ifS (.notE (.call 30 [(.var 0)])) [(.rais "BadTerm")] [])]
def d_check_term : DefI := ⟨"check_term", ["thing"], defArgs (top 43), defBody (top 43), defScope (top 43), ["thing"], false, false, false, some ir_check_term⟩
def ir_number : List IS := [(.ret (.tup [(.con (.str "p")), (.tup [(.var 0), (.con (.int 1))])]))]
def d_number : DefI := ⟨"number", ["top"], defArgs (top 44), defBody (top 44), defScope (top 44), ["top"], false, false, false, some ir_number⟩
def ir_value : List IS := [(.ifS (.cmp .Eq (.var 0) (.con (.str "x"))) [(.ret (.var 1))] []), (.asg (.var 2) (.idx (.var 0) (.con (.int 0)))), (.ifS (.cmp .Eq (.var 2) (.con (.str "p"))) [(.ret (.idx (.var 0) (.con (.int 1))))] []), (.ifS (.cmp .Eq (.var 2) (.con (.str "n"))) [(.ret (.call 7 [(.call 33 [(.idx (.var 0) (.con (.int 1))), (.var 1)])]))] []), (.ifS (.cmp .Eq (.var 2) (.con (.str "^"))) [(.ret (.call 12 [(.call 33 [(.idx (.var 0) (.con (.int 1))), (.var 1)]), (.idx (.var 0) (.con (.int 2)))]))] []), (.ifS (.cmp .Eq (.var 2) (.con (.str "r"))) [(.rais "NoWay")] []), (.asg (.tup [(.var 3), (.var 4)]) (.tup [(.call 33 [(.idx (.var 0) (.con (.int 1))), (.var 1)]), (.call 33 [(.idx (.var 0) (.con (.int 2))), (.var 1)])])), (.ifS (.cmp .Eq (.var 2) (.con (.str "+"))) [(.ret (.call 3 [(.var 3), (.var 4)]))] []), (.ifS (.cmp .Eq (.var 2) (.con (.str "-"))) [(.ret (.call 4 [(.var 3), (.var 4)]))] []), (.ifS (.cmp .Eq (.var 2) (.con (.str "*"))) [(.ret (.call 5 [(.var 3), (.var 4)]))] []), (.ifS (.cmp .Eq (.idx (.var 4) (.con (.int 0))) (.con (.int 0))) [(.rais "NoWay")] []), (.ret (.call 6 [(.var 3), (.var 4)]))]
def d_value : DefI := ⟨"value", ["term", "a"], defArgs (top 45), defBody (top 45), defScope (top 45), ["term", "a", "kind", "one", "other"], false, false, false, some ir_value⟩
def ir_bounded : List IS := [(.ifS (.cmp .Eq (.var 0) (.con (.str "x"))) [(.ret (.var 1))] []), (.asg (.var 3) (.idx (.var 0) (.con (.int 0)))), (.ifS (.cmp .Eq (.var 3) (.con (.str "p"))) [(.ret (.call 14 [(.idx (.var 0) (.con (.int 1)))]))] []), (.ifS (.cmp .Eq (.var 3) (.con (.str "n"))) [(.ret (.call 17 [(.call 34 [(.idx (.var 0) (.con (.int 1))), (.var 1), (.var 2)])]))] []), (.ifS (.cmp .Eq (.var 3) (.con (.str "^"))) [(.ret (.call 20 [(.call 34 [(.idx (.var 0) (.con (.int 1))), (.var 1), (.var 2)]), (.idx (.var 0) (.con (.int 2)))]))] []), (.ifS (.cmp .Eq (.var 3) (.con (.str "r"))) [(.ret (.call 21 [(.call 34 [(.idx (.var 0) (.con (.int 1))), (.var 1), (.var 2)]), (.var 2)]))] []), (.asg (.tup [(.var 4), (.var 5)]) (.tup [(.call 34 [(.idx (.var 0) (.con (.int 1))), (.var 1), (.var 2)]), (.call 34 [(.idx (.var 0) (.con (.int 2))), (.var 1), (.var 2)])])), (.ifS (.cmp .Eq (.var 3) (.con (.str "+"))) [(.ret (.call 15 [(.var 4), (.var 5)]))] []), (.ifS (.cmp .Eq (.var 3) (.con (.str "-"))) [(.ret (.call 16 [(.var 4), (.var 5)]))] []), (.ifS (.cmp .Eq (.var 3) (.con (.str "*"))) [(.ret (.call 18 [(.var 4), (.var 5)]))] []), (.ret (.call 19 [(.var 4), (.var 5)]))]
def d_bounded : DefI := ⟨"bounded", ["term", "x", "fine"], defArgs (top 46), defBody (top 46), defScope (top 46), ["term", "x", "fine", "kind", "one", "other"], false, false, false, some ir_bounded⟩
def ir_slope : List IS := [(.ifS (.cmp .Eq (.var 0) (.con (.str "x"))) [(.ret (.call 32 [(.con (.int 1))]))] []), (.asg (.var 1) (.idx (.var 0) (.con (.int 0)))), (.ifS (.cmp .Eq (.var 1) (.con (.str "p"))) [(.ret (.call 32 [(.con (.int 0))]))] []), (.ifS (.cmp .Eq (.var 1) (.con (.str "n"))) [(.ret (.call 36 [(.tup [(.con (.str "n")), (.call 35 [(.idx (.var 0) (.con (.int 1)))])])]))] []), (.ifS (.cmp .Eq (.var 1) (.con (.str "r"))) [(.ret (.call 36 [(.tup [(.con (.str "/")), (.call 35 [(.idx (.var 0) (.con (.int 1)))]), (.tup [(.con (.str "*")), (.call 32 [(.con (.int 2))]), (.var 0)])])]))] []), (.asg (.var 2) (.call 35 [(.idx (.var 0) (.con (.int 1)))])), (.ifS (.cmp .Eq (.var 1) (.con (.str "^"))) [(.ifS (.cmp .Eq (.idx (.var 0) (.con (.int 2))) (.con (.int 0))) [(.ret (.call 32 [(.con (.int 0))]))] []), (.ret (.call 36 [(.tup [(.con (.str "*")), (.tup [(.con (.str "*")), (.call 32 [(.idx (.var 0) (.con (.int 2)))]), (.tup [(.con (.str "^")), (.idx (.var 0) (.con (.int 1))), (.bin .Sub (.idx (.var 0) (.con (.int 2))) (.con (.int 1)))])]), (.var 2)])]))] []), (.asg (.var 3) (.call 35 [(.idx (.var 0) (.con (.int 2)))])), (.ifS (.cmp .In (.var 1) (.tup [(.con (.str "+")), (.con (.str "-"))])) [(.ret (.call 36 [(.tup [(.var 1), (.var 2), (.var 3)])]))] []), (.ifS (.cmp .Eq (.var 1) (.con (.str "*"))) [(.ret (.call 36 [(.tup [(.con (.str "+")), (.tup [(.con (.str "*")), (.var 2), (.idx (.var 0) (.con (.int 2)))]), (.tup [(.con (.str "*")), (.idx (.var 0) (.con (.int 1))), (.var 3)])])]))] []), (.ret (.call 36 [(.tup [(.con (.str "/")), (.tup [(.con (.str "-")), (.tup [(.con (.str "*")), (.var 2), (.idx (.var 0) (.con (.int 2)))]), (.tup [(.con (.str "*")), (.idx (.var 0) (.con (.int 1))), (.var 3)])]), (.tup [(.con (.str "^")), (.idx (.var 0) (.con (.int 2))), (.con (.int 2))])])]))]
def d_slope : DefI := ⟨"slope", ["term"], defArgs (top 47), defBody (top 47), defScope (top 47), ["term", "kind", "one", "other"], false, false, false, some ir_slope⟩
def ir_plain : List IS := [(.ifS (.orE (.cmp .Eq (.var 0) (.con (.str "x"))) (.cmp .Eq (.idx (.var 0) (.con (.int 0))) (.con (.str "p")))) [(.ret (.var 0))] []), (.ifS (.cmp .In (.idx (.var 0) (.con (.int 0))) (.tup [(.con (.str "n")), (.con (.str "r"))])) [(.asg (.var 1) (.call 36 [(.idx (.var 0) (.con (.int 1)))])), (.ifS (.andE (.cmp .Eq (.idx (.var 0) (.con (.int 0))) (.con (.str "n"))) (.cmp .Eq (.idx (.var 1) (.con (.int 0))) (.con (.str "p")))) [(.ret (.tup [(.con (.str "p")), (.call 7 [(.idx (.var 1) (.con (.int 1)))])]))] []), (.ret (.tup [(.idx (.var 0) (.con (.int 0))), (.var 1)]))] []), (.ifS (.cmp .Eq (.idx (.var 0) (.con (.int 0))) (.con (.str "^"))) [(.ret (.call 37 [(.call 36 [(.idx (.var 0) (.con (.int 1)))]), (.idx (.var 0) (.con (.int 2)))]))] []), (.asg (.tup [(.var 2), (.var 3)]) (.tup [(.call 36 [(.idx (.var 0) (.con (.int 1)))]), (.call 36 [(.idx (.var 0) (.con (.int 2)))])])), (.ifS (.andE (.cmp .Eq (.idx (.var 2) (.con (.int 0))) (.con (.str "p"))) (.andE (.cmp .Eq (.idx (.var 3) (.con (.int 0))) (.con (.str "p"))) (.orE (.cmp .NotEq (.idx (.var 0) (.con (.int 0))) (.con (.str "/"))) (.cmp .NotEq (.idx (.idx (.var 3) (.con (.int 1))) (.con (.int 0))) (.con (.int 0)))))) [(.ret (.tup [(.con (.str "p")), (.call 33 [(.tup [(.idx (.var 0) (.con (.int 0))), (.var 2), (.var 3)]), (.tup [(.con (.int 0)), (.con (.int 1))])])]))] []), (.ifS (.andE (.cmp .Eq (.idx (.var 0) (.con (.int 0))) (.con (.str "+"))) (.cmp .In (.call 32 [(.con (.int 0))]) (.tup [(.var 2), (.var 3)]))) [(.ret (.ifE (.cmp .Eq (.var 2) (.call 32 [(.con (.int 0))])) (.var 3) (.var 2)))] []), (.ifS (.andE (.cmp .Eq (.idx (.var 0) (.con (.int 0))) (.con (.str "-"))) (.cmp .Eq (.var 3) (.call 32 [(.con (.int 0))]))) [(.ret (.var 2))] []), (.ifS (.andE (.cmp .Eq (.idx (.var 0) (.con (.int 0))) (.con (.str "*"))) (.cmp .In (.call 32 [(.con (.int 1))]) (.tup [(.var 2), (.var 3)]))) [(.ret (.ifE (.cmp .Eq (.var 2) (.call 32 [(.con (.int 1))])) (.var 3) (.var 2)))] []), (.ifS (.andE (.cmp .Eq (.idx (.var 0) (.con (.int 0))) (.con (.str "*"))) (.cmp .In (.call 32 [(.con (.int 0))]) (.tup [(.var 2), (.var 3)]))) [(.ret (.call 32 [(.con (.int 0))]))] []), (.ifS (.andE (.cmp .Eq (.idx (.var 0) (.con (.int 0))) (.con (.str "/"))) (.cmp .Eq (.var 3) (.call 32 [(.con (.int 1))]))) [(.ret (.var 2))] []), (.ret (.tup [(.idx (.var 0) (.con (.int 0))), (.var 2), (.var 3)]))]
def d_plain : DefI := ⟨"plain", ["term"], defArgs (top 48), defBody (top 48), defScope (top 48), ["term", "inner", "one", "other"], false, false, false, some ir_plain⟩
def ir_power_plain : List IS := [(.ifS (.cmp .Eq (.var 1) (.con (.int 0))) [(.ret (.call 32 [(.con (.int 1))]))] []), (.ifS (.cmp .Eq (.var 1) (.con (.int 1))) [(.ret (.var 0))] []), (.ret (.ifE (.cmp .Eq (.idx (.var 0) (.con (.int 0))) (.con (.str "p"))) (.tup [(.con (.str "p")), (.call 12 [(.idx (.var 0) (.con (.int 1))), (.var 1)])]) (.tup [(.con (.str "^")), (.var 0), (.var 1)])))]
def d_power_plain : DefI := ⟨"power_plain", ["term", "many"], defArgs (top 49), defBody (top 49), defScope (top 49), ["term", "many"], false, false, false, some ir_power_plain⟩
def ir_told : List IS := [(.ifS (.cmp .Eq (.var 0) (.con (.str "x"))) [(.ret (.con (.str "x")))] []), (.ifS (.cmp .Eq (.idx (.var 0) (.con (.int 0))) (.con (.str "p"))) [(.asg (.var 1) (.ifE (.cmp .Eq (.idx (.idx (.var 0) (.con (.int 1))) (.con (.int 1))) (.con (.int 1))) (.blt .str [(.idx (.idx (.var 0) (.con (.int 1))) (.con (.int 0)))]) (.bin .Add (.bin .Add (.blt .str [(.idx (.idx (.var 0) (.con (.int 1))) (.con (.int 0)))]) (.con (.str "/"))) (.blt .str [(.idx (.idx (.var 0) (.con (.int 1))) (.con (.int 1)))])))), (.ret (.ifE (.orE (.cmp .Lt (.idx (.idx (.var 0) (.con (.int 1))) (.con (.int 0))) (.con (.int 0))) (.cmp .NotEq (.idx (.idx (.var 0) (.con (.int 1))) (.con (.int 1))) (.con (.int 1)))) (.bin .Add (.bin .Add (.con (.str "(")) (.var 1)) (.con (.str ")"))) (.var 1)))] []), (.ifS (.cmp .Eq (.idx (.var 0) (.con (.int 0))) (.con (.str "n"))) [(.ret (.bin .Add (.bin .Add (.con (.str "(-")) (.call 38 [(.idx (.var 0) (.con (.int 1)))])) (.con (.str ")"))))] []), (.ifS (.cmp .Eq (.idx (.var 0) (.con (.int 0))) (.con (.str "r"))) [(.ret (.bin .Add (.bin .Add (.con (.str "root(")) (.call 38 [(.idx (.var 0) (.con (.int 1)))])) (.con (.str ")"))))] []), (.ifS (.cmp .Eq (.idx (.var 0) (.con (.int 0))) (.con (.str "^"))) [(.ret (.bin .Add (.bin .Add (.bin .Add (.bin .Add (.con (.str "(")) (.call 38 [(.idx (.var 0) (.con (.int 1)))])) (.con (.str "^"))) (.blt .str [(.idx (.var 0) (.con (.int 2)))])) (.con (.str ")"))))] []), (.ret (.bin .Add (.bin .Add (.bin .Add (.bin .Add (.bin .Add (.bin .Add (.con (.str "(")) (.call 38 [(.idx (.var 0) (.con (.int 1)))])) (.con (.str " "))) (.idx (.var 0) (.con (.int 0)))) (.con (.str " "))) (.call 38 [(.idx (.var 0) (.con (.int 2)))])) (.con (.str ")"))))]
def d_told : DefI := ⟨"told", ["term"], defArgs (top 50), defBody (top 50), defScope (top 50), ["term", "text"], false, false, false, some ir_told⟩
def ir_narrowed : List IS := [(.asg (.var 2) (.call 34 [(.call 35 [(.var 0)]), (.var 1), (.glo "FINE" (.int 30))])), (.asg (.var 3) (.call 27 [(.var 1)])), (.asg (.var 4) (.call 34 [(.var 0), (.call 14 [(.var 3)]), (.glo "FINE" (.int 30))])), (.ret (.call 16 [(.call 14 [(.var 3)]), (.call 19 [(.var 4), (.var 2)])]))]
def d_narrowed : DefI := ⟨"narrowed", ["term", "x"], defArgs (top 53), defBody (top 53), defScope (top 53), ["term", "x", "tilt", "half", "here"], false, false, false, some ir_narrowed⟩
def ir_kind_of : List IS := [(.expr (.var 1000)), (.ret (.con (.str "open")))]
def d_kind_of : DefI := ⟨"kind_of", ["term", "x"], defArgs (top 54), defBody (top 54), defScope (top 54), ["term", "x", "tilt", "low", "high"], false, false, false, some ir_kind_of⟩
def ir_parted : List IS := [(.asg (.tup [(.var 3), (.var 4)]) (.tup [(.lst [(.tup [(.var 1), (.var 2)])]), (.lst [])])), (.whl (.cmp .NotEq (.var 3) (.lst [])) [(.asg (.tup [(.var 5), (.var 6)]) (.mth .pop (.var 3) [])), (.asg (.var 7) (.call 40 [(.var 0), (.var 5)])), (.ifS (.andE (.cmp .Eq (.var 7) (.con (.str "open"))) (.cmp .Gt (.var 6) (.con (.int 0)))) [(.asg (.var 8) (.call 27 [(.var 5)])), (.expr (.mth .append (.var 3) [(.tup [(.tup [(.var 8), (.idx (.var 5) (.con (.int 1)))]), (.bin .Sub (.var 6) (.con (.int 1)))])])), (.expr (.mth .append (.var 3) [(.tup [(.tup [(.idx (.var 5) (.con (.int 0))), (.var 8)]), (.bin .Sub (.var 6) (.con (.int 1)))])]))] [(.expr (.mth .append (.var 4) [(.tup [(.var 5), (.var 7)])]))]), (.ifS (.cmp .Gt (.blt .len [(.var 4)]) (.con (.int 400))) [(.rais "TooLarge")] [])]), (.ret (.blt .tuple [(.var 4)]))]
def d_parted : DefI := ⟨"parted", ["term", "x", "deep"], defArgs (top 55), defBody (top 55), defScope (top 55), ["term", "x", "deep", "left", "found", "part", "more", "kind", "half"], false, false, false, some ir_parted⟩
def ir_look_rows : List IS := [(.asg (.var 3) (.idx (.var 1) (.con (.int 0)))), (.forS (.tup [(.var 4), (.tup [(.var 5), (.var 6)])]) (.enm (.var 2)) [(.ifS (.orE (.cmp .NotEq (.idx (.var 5) (.con (.int 0))) (.var 3)) (.orE (.cmp .GtE (.call 9 [(.idx (.var 5) (.con (.int 0))), (.idx (.var 5) (.con (.int 1)))]) (.con (.int 0))) (.cmp .NotIn (.var 6) (.tup [(.con (.str "none")), (.con (.str "one")), (.con (.str "open"))])))) [(.expr (.var 1000))] []), (.ifS (.andE (.cmp .NotEq (.var 6) (.con (.str "open"))) (.cmp .NotEq (.call 40 [(.var 0), (.var 5)]) (.var 6))) [(.expr (.var 1000))] []), (.asg (.var 3) (.idx (.var 5) (.con (.int 1))))]), (.ifS (.cmp .NotEq (.var 3) (.idx (.var 1) (.con (.int 1)))) [(.expr (.var 1000))] [])]
def d_look_rows : DefI := ⟨"look_rows", ["term", "x", "rows"], defArgs (top 56), defBody (top 56), defScope (top 56), ["term", "x", "rows", "here", "k", "part", "kind"], false, false, false, some ir_look_rows⟩
def ir_counted : List IS := [(.asg (.var 3) (.call 41 [(.var 0), (.var 1), (.var 2)])), (.ret (.tup [(.blt .len [(.comp (.tup [(.var 4), (.var 5)]) (.seq (.var 3)) (.cmp .Eq (.var 5) (.con (.str "one"))) (.con (.int 1)) [4, 5])]), (.blt .len [(.comp (.tup [(.var 4), (.var 5)]) (.seq (.var 3)) (.cmp .Eq (.var 5) (.con (.str "open"))) (.con (.int 1)) [4, 5])])]))]
def d_counted : DefI := ⟨"counted", ["term", "x", "deep"], defArgs (top 57), defBody (top 57), defScope (top 57), ["term", "x", "deep", "rows", "part", "kind"], false, false, false, some ir_counted⟩
def ir_repeats : List IS := [(.asg (.var 2) (.call 13 [(.var 0)])), (.ifS (.cmp .Eq (.bin .Mult (.var 2) (.var 2)) (.var 0)) [(.rais "NoWay")] []), (.asg (.tup [(.var 3), (.var 4), (.var 5), (.var 6)]) (.tup [(.lst []), (.con (.int 0)), (.con (.int 1)), (.var 2)])), (.whl (.con (.bl true)) [(.asg (.var 4) (.bin .Sub (.bin .Mult (.var 5) (.var 6)) (.var 4))), (.asg (.var 5) (.bin .FloorDiv (.bin .Sub (.var 0) (.bin .Mult (.var 4) (.var 4))) (.var 5))), (.asg (.var 6) (.bin .FloorDiv (.bin .Add (.var 2) (.var 4)) (.var 5))), (.expr (.mth .append (.var 3) [(.var 6)])), (.ifS (.cmp .Eq (.var 6) (.bin .Mult (.con (.int 2)) (.var 2))) [(.ret (.tup [(.var 2), (.blt .tuple [(.var 3)])]))] []), (.ifS (.cmp .GtE (.blt .len [(.var 3)]) (.var 1)) [(.rais "TooLarge")] [])])]
def d_repeats : DefI := ⟨"repeats", ["number", "most"], defArgs (top 61), defBody (top 61), defScope (top 61), ["number", "most", "root", "found", "m", "d", "k"], false, false, false, some ir_repeats⟩
def ir__law_dice : List IS := [(.ifS (.cmp2 .Lt .Lt (.bin .Sub (.con (.int 0)) (.con (.int 10))) (.var 0) (.con (.int 10))) [(.ret (.lst [(.blt .abs [(.var 0)]), (.con (.int 0)), (.con (.int 2))]))] []), (.ret (.lst [(.var 0), (.bin .Add (.con (.int 1)) (.bin .Mod (.blt .int [(.var 0)]) (.con (.int 1009)))), (.blt .int [(.cmp .GtE (.var 0) (.bin .Pow (.con (.int 10)) (.con (.int 18))))])]))]
def d__law_dice : DefI := ⟨"_law_dice", ["cell"], defArgs (top 63), defBody (top 63), defScope (top 63), ["cell"], false, false, false, some ir__law_dice⟩
def ir__law_roll : List IS := [(.ifS (.orE (.cmp .Eq (.idx (.var 0) (.con (.int 2))) (.con (.int 2))) (.andE (.cmp .Eq (.idx (.var 0) (.con (.int 2))) (.con (.int 1))) (.cmp .Gt (.idx (.var 0) (.con (.int 0))) (.con (.int 0))))) [(.asg (.var 2) (.bin .Mod (.blt .int [(.idx (.var 0) (.con (.int 0)))]) (.var 1))), (.setI (.var 0) (.con (.int 0)) (.bin .FloorDiv (.idx (.var 0) (.con (.int 0))) (.var 1))), (.ret (.var 2))] []), (.setI (.var 0) (.con (.int 2)) (.con (.int 0))), (.setI (.var 0) (.con (.int 0)) (.bin .Mod (.blt .int [(.bin .Add (.bin .Add (.bin .Mult (.idx (.var 0) (.con (.int 0))) (.con (.int 48271))) (.bin .Mult (.idx (.var 0) (.con (.int 1))) (.con (.int 69621)))) (.con (.int 11)))]) (.con (.int 2147483647)))), (.setI (.var 0) (.con (.int 1)) (.bin .Add (.idx (.var 0) (.con (.int 1))) (.con (.int 1)))), (.ret (.bin .Mod (.blt .int [(.bin .Add (.bin .FloorDiv (.idx (.var 0) (.con (.int 0))) (.con (.int 7))) (.idx (.var 0) (.con (.int 0))))]) (.var 1)))]
def d__law_roll : DefI := ⟨"_law_roll", ["dice", "many"], defArgs (top 64), defBody (top 64), defScope (top 64), ["dice", "many", "found"], false, false, false, some ir__law_roll⟩
def ir__law_rounds : List IS := [(.asg (.var 2) (.slc false true (.var 0) .nop (.var 1))), (.ifS (.cmp .Eq (.var 2) (.lst [])) [(.asg (.var 2) (.lst [(.con (.int 0))]))] []), (.ret (.comp (.var 3) (.seq (.var 2)) (.con (.bl true)) (.call 45 [(.var 3)]) [3]))]
def d__law_rounds : DefI := ⟨"_law_rounds", ["script", "most"], defArgs (top 65), defBody (top 65), defScope (top 65), ["script", "most", "cells", "cell"], false, false, false, some ir__law_rounds⟩
def ir__law_told : List IS := [(.expr (.var 1000)), (.ret (.lst []))]
def d__law_told : DefI := ⟨"_law_told", ["what"], defArgs (top 66), defBody (top 66), defScope (top 66), ["what", "e", "some"], false, false, false, some ir__law_told⟩
def irDeep : IE := (.call 25 [(.tup [(.tup [(.con (.int 0)), (.con (.int 1))]), (.tup [(.con (.int 1)), (.con (.int 1))])]), (.tup [(.con (.int 0)), (.con (.int 1))])])
def irRoll : IE := (.bin .Add (.con (.int 1)) (.call 46 [(.var 1), (.con (.int 900))]))
def irBody : List IS := [(.fgt [3, 4, 5, 6]), (.expr irDeep), (.asg (.var 2) irRoll), (.ifS (.cmp .GtE (.var 2) (.con (.int 1))) [] [(.expr (.var 1000))])]
def ir_law : List IS := [(.forS (.var 1) (.seq (.call 47 [(.var 0), (.con (.int 3))])) irBody), (.ret (.con (.bl true)))]
def d_law : DefI := ⟨"law", ["script"], defArgs (top 67), defBody (top 67), defScope (top 67), ["script", "dice", "many", "desk", "whats", "k", "j"], true, false, true, some ir_law⟩
def LL : LawI := ⟨[d__wall, d_shared, d_made, d_add, d_less, d_times, d_over, d_turned, d_sign, d_order, d_least, d_greatest, d_raised, d_root_floor, d_at, d_plus, d_minus, d_negative, d_product, d_quotient, d_power, d_root, d_root_below, d_root_above, d_two_to, d_holds, d_inside, d_middle, d_halves, d_sign_of, d_is_term, d_check_term, d_number, d_value, d_bounded, d_slope, d_plain, d_power_plain, d_told, d_narrowed, d_kind_of, d_parted, d_look_rows, d_counted, d_repeats, d__law_dice, d__law_roll, d__law_rounds, d__law_told, d_law], toldT, glosT, exsT, subsT, 2 ^ 4096⟩
def allB : AllB LL.defs :=
  .cons (fun _ _ _ _ _ _ us hl => match us, hl with | [_], _ => rfl) <|
  .cons (fun _ _ _ _ _ _ us hl => match us, hl with | [_, _], _ => rfl) <|
  .cons (fun _ _ _ _ _ _ us hl => match us, hl with | [_, _], _ => rfl) <|
  .cons (fun _ _ _ _ _ _ us hl => match us, hl with | [_, _], _ => rfl) <|
  .cons (fun _ _ _ _ _ _ us hl => match us, hl with | [_, _], _ => rfl) <|
  .cons (fun _ _ _ _ _ _ us hl => match us, hl with | [_, _], _ => rfl) <|
  .cons (fun _ _ _ _ _ _ us hl => match us, hl with | [_, _], _ => rfl) <|
  .cons (fun _ _ _ _ _ _ us hl => match us, hl with | [_], _ => rfl) <|
  .cons (fun _ _ _ _ _ _ us hl => match us, hl with | [_], _ => rfl) <|
  .cons (fun _ _ _ _ _ _ us hl => match us, hl with | [_, _], _ => rfl) <|
  .cons (fun _ _ _ _ _ _ us hl => match us, hl with | [_], _ => rfl) <|
  .cons (fun _ _ _ _ _ _ us hl => match us, hl with | [_], _ => rfl) <|
  .cons (fun _ _ _ _ _ _ us hl => match us, hl with | [_, _], _ => rfl) <|
  .cons (fun _ _ _ _ _ _ us hl => match us, hl with | [_], _ => rfl) <|
  .cons (fun _ _ _ _ _ _ us hl => match us, hl with | [_], _ => rfl) <|
  .cons (fun _ _ _ _ _ _ us hl => match us, hl with | [_, _], _ => rfl) <|
  .cons (fun _ _ _ _ _ _ us hl => match us, hl with | [_, _], _ => rfl) <|
  .cons (fun _ _ _ _ _ _ us hl => match us, hl with | [_], _ => rfl) <|
  .cons (fun _ _ _ _ _ _ us hl => match us, hl with | [_, _], _ => rfl) <|
  .cons (fun _ _ _ _ _ _ us hl => match us, hl with | [_, _], _ => rfl) <|
  .cons (fun _ _ _ _ _ _ us hl => match us, hl with | [_, _], _ => rfl) <|
  .cons (fun _ _ _ _ _ _ us hl => match us, hl with | [_, _], _ => rfl) <|
  .cons (fun _ _ _ _ _ _ us hl => match us, hl with | [_, _], _ => rfl) <|
  .cons (fun _ _ _ _ _ _ us hl => match us, hl with | [_, _], _ => rfl) <|
  .cons (fun _ _ _ _ _ _ us hl => match us, hl with | [_], _ => rfl) <|
  .cons (fun _ _ _ _ _ _ us hl => match us, hl with | [_, _], _ => rfl) <|
  .cons (fun _ _ _ _ _ _ us hl => match us, hl with | [_, _], _ => rfl) <|
  .cons (fun _ _ _ _ _ _ us hl => match us, hl with | [_], _ => rfl) <|
  .cons (fun _ _ _ _ _ _ us hl => match us, hl with | [_], _ => rfl) <|
  .cons (fun _ _ _ _ _ _ us hl => match us, hl with | [_], _ => rfl) <|
  .cons (fun _ _ _ _ _ _ us hl => match us, hl with | [_], _ => rfl) <|
  .cons (fun _ _ _ _ _ _ us hl => match us, hl with | [_], _ => rfl) <|
  .cons (fun _ _ _ _ _ _ us hl => match us, hl with | [_], _ => rfl) <|
  .cons (fun _ _ _ _ _ _ us hl => match us, hl with | [_, _], _ => rfl) <|
  .cons (fun _ _ _ _ _ _ us hl => match us, hl with | [_, _, _], _ => rfl) <|
  .cons (fun _ _ _ _ _ _ us hl => match us, hl with | [_], _ => rfl) <|
  .cons (fun _ _ _ _ _ _ us hl => match us, hl with | [_], _ => rfl) <|
  .cons (fun _ _ _ _ _ _ us hl => match us, hl with | [_, _], _ => rfl) <|
  .cons (fun _ _ _ _ _ _ us hl => match us, hl with | [_], _ => rfl) <|
  .cons (fun _ _ _ _ _ _ us hl => match us, hl with | [_, _], _ => rfl) <|
  .cons (fun _ _ _ _ _ _ us hl => match us, hl with | [_, _], _ => rfl) <|
  .cons (fun _ _ _ _ _ _ us hl => match us, hl with | [_, _, _], _ => rfl) <|
  .cons (fun _ _ _ _ _ _ us hl => match us, hl with | [_, _, _], _ => rfl) <|
  .cons (fun _ _ _ _ _ _ us hl => match us, hl with | [_, _, _], _ => rfl) <|
  .cons (fun _ _ _ _ _ _ us hl => match us, hl with | [_, _], _ => rfl) <|
  .cons (fun _ _ _ _ _ _ us hl => match us, hl with | [_], _ => rfl) <|
  .cons (fun _ _ _ _ _ _ us hl => match us, hl with | [_, _], _ => rfl) <|
  .cons (fun _ _ _ _ _ _ us hl => match us, hl with | [_, _], _ => rfl) <|
  .cons (fun _ _ _ _ _ _ us hl => match us, hl with | [_], _ => rfl) <|
  .cons (fun _ _ _ _ _ _ us hl => match us, hl with | [_], _ => rfl) <|
  .nil
def nLaw : Nat := 49
-- top index of law: 67
abbrev i__wall : Nat := 0
abbrev i_shared : Nat := 1
abbrev i_made : Nat := 2
abbrev i_add : Nat := 3
abbrev i_less : Nat := 4
abbrev i_times : Nat := 5
abbrev i_over : Nat := 6
abbrev i_turned : Nat := 7
abbrev i_sign : Nat := 8
abbrev i_order : Nat := 9
abbrev i_least : Nat := 10
abbrev i_greatest : Nat := 11
abbrev i_raised : Nat := 12
abbrev i_root_floor : Nat := 13
abbrev i_at : Nat := 14
abbrev i_plus : Nat := 15
abbrev i_minus : Nat := 16
abbrev i_negative : Nat := 17
abbrev i_product : Nat := 18
abbrev i_quotient : Nat := 19
abbrev i_power : Nat := 20
abbrev i_root : Nat := 21
abbrev i_root_below : Nat := 22
abbrev i_root_above : Nat := 23
abbrev i_two_to : Nat := 24
abbrev i_holds : Nat := 25
abbrev i_inside : Nat := 26
abbrev i_middle : Nat := 27
abbrev i_halves : Nat := 28
abbrev i_sign_of : Nat := 29
abbrev i_is_term : Nat := 30
abbrev i_check_term : Nat := 31
abbrev i_number : Nat := 32
abbrev i_value : Nat := 33
abbrev i_bounded : Nat := 34
abbrev i_slope : Nat := 35
abbrev i_plain : Nat := 36
abbrev i_power_plain : Nat := 37
abbrev i_told : Nat := 38
abbrev i_narrowed : Nat := 39
abbrev i_kind_of : Nat := 40
abbrev i_parted : Nat := 41
abbrev i_look_rows : Nat := 42
abbrev i_counted : Nat := 43
abbrev i_repeats : Nat := 44
abbrev i__law_dice : Nat := 45
abbrev i__law_roll : Nat := 46
abbrev i__law_rounds : Nat := 47
abbrev i__law_told : Nat := 48
abbrev i_law : Nat := 49
end Dat.K31

/-! LamV2 -/
set_option linter.all false
set_option maxRecDepth 100000
set_option maxHeartbeats 2000000
/-! LamV2: told(value): the value a tracked lambda. -/
namespace Dat
open PySem PySem.Spec L2 PyProof.Rows LamX
abbrev laO (X : Cx) (f c' : Addr) (params : Arguments) (body : Expr) (scope : Scope) : HO := LamO f (X.env.qual ++ "<lambda>") params body scope (cloFrom X.env.cells scope.names []) c'
/-- the def at g, that calls what it got by its first name a, makes of the lambda's reading TT -/
def GivesV (X : Cx) (Ng : List Str) (x : Str) (sg : Scope) (g : Addr) (cdg : Value) (bg : List Stmt) (a : Str) (TT : (XK → Hp → VK → Prop) → Hp → VK → Prop) : Prop :=
  ∀ (f c' : Addr) (params : Arguments) (body : Expr) (scope : Scope) (s : Shared) (H : Hp) (Q : VK) (tl : XK → Hp → VK → Prop),
    (∀ (W : WX) (pn : List (Addr × Obj)) (xe : Value → Shared → Prop) (p1 p2 : Pos), Takes ((cxOf C8.CX0 X.prog X.w X.K X.mg X.base Ng x sg g cdg X.A X.stack s H C8.E0).tr pn xe) W →
      PE ((cxOf C8.CX0 X.prog X.w X.K X.mg X.base Ng x sg g cdg X.A X.stack s H C8.E0).tr pn xe) (.Call (.Name a p1) [] [] p2) (fun σZ HZ Q => σZ[0]? = some (some (.ref f)) ∧ HZ f = some (laO X f c' params body scope) ∧ HZ c' = some (CodeO c' (X.env.qual ++ "<lambda>")) ∧ ∃ E : XK, (∀ cls d H', E cls d H' → W cls d σZ H') ∧ tl E HZ Q)) →
    H f = some (laO X f c' params body scope) → H c' = some (CodeO c' (X.env.qual ++ "<lambda>")) → TT tl H Q →
    ∃ t, PSs (cxOf C8.CX0 X.prog X.w X.K X.mg X.base Ng x sg g cdg X.A X.stack s H C8.E0).nox bg t ∧ t { nx := fun _ H' => Q .non H', rt := Q } (L2.start Ng [.ref f]) H
/-- the lambda at f, for a call from X -/
structure LamOkV (X : Cx) (k : Nat) (H : Hp) (f : Addr) (t : XK → TE) (c' : Addr) (params : Arguments) (body : Expr) (scope : Scope) : Prop where
  fo : H f = some (laO X f c' params body scope)
  co : H c' = some (CodeO c' (X.env.qual ++ "<lambda>"))
  L : LamS X.env.scope scope
  bind : ∀ (pm ctv : Value), bindArgs (PySem.W.kla_fn "<lambda>" (X.env.qual ++ "<lambda>") params body scope (cloFrom X.env.cells scope.names []) pm (.ref c') ctv) ⟨[], []⟩ = pure []
  body : ∀ (A : Around) (outer : List Env) (s : Shared) (H : Hp) (E : XK), Room k (A.deeper (lamEnv X scope s.heap.objs.size f c')) → PE (lamCx X A outer s H E scope f c') body (t E)
def tToldV (X : Cx) (k : Nat) (TT : (XK → Hp → VK → Prop) → Hp → VK → Prop) (ta : TE) : TE := fun σ H Q => ta σ H fun v H1 => ∃ (f c' : Addr) (params : Arguments) (body : Expr) (scope : Scope) (t : XK → TE), v = .ref f ∧ LamOkV X k H1 f t c' params body scope ∧ TT (fun E H' Q' => t E σ H' Q') H1 Q
theorem pe_toldV {X : Cx} {TT : (XK → Hp → VK → Prop) → Hp → VK → Prop} {x a : Str} {g : Addr} {k : Nat} {pg : Arguments} {bg : List Stmt} {sg : Scope} {dV kV doc pm cdv ct oc : Value} {an od : Option Addr} {osl : Array (Option Value)} {Ng : List Str} {arg : Expr} {ta : TE} {p pos : Pos}
    (hg : Gl X x) (hm : X.mg x = some (.ref g)) (hk : PySem.W.keepIn X.K (.ref g) = true) (lk : X.K.lookup g = some ⟨oc, od, .func (PySem.W.fnOf x x pg bg sg dV kV doc pm an cdv ct), osl⟩) (hcg : PySem.W.codeIn X.K cdv x = true) (hb : L2.Binds X.K (PySem.W.fnOf x x pg bg sg dV kV doc pm an cdv ct) [a] [])
    (Sg : FnScope Ng [a] sg) (hNg : Ng[0]? = some a) (hva : Vis sg a) (hG : GivesV X Ng x sg g cdv bg a TT) (hr : Room (k + 2) X.A) (harg : PE X arg ta) (hpl : plainE arg = true)
    (hdb : (x == ("__debug__" : Str)) = false := by decide) (hd : (a == ("__debug__" : Str)) = false := by decide) (hcd : (a == ("__classdict__" : Str)) = false := by decide) :
    PE X (.Call (.Name x p) [arg] [] pos) (tToldV X k TT ta) := by
  refine ⟨fun pins s σ H Q I h => ?_⟩
  have PAs : PA X [arg] (tCons ta tNil) := pa_cons harg pa_nil (noStar hpl _ _)
  refine wpAny_Call_Name_kw (ld_glob I hg hm ?_ hdb)
  refine PySem.W.callWith_K (h₀ := X.base) I.ok.mod.kin hk (thn (PAs.run pos pins s σ H (fun vs H1 => match vs with
    | [v] => ∃ (f c' : Addr) (params : Arguments) (body : Expr) (scope : Scope) (t : XK → TE), v = .ref f ∧ LamOkV X k H1 f t c' params body scope ∧ TT (fun E H' Q' => t E σ H' Q') H1 Q
    | _ => False) I h) fun us s1 ⟨vs, H1, I1, r, q⟩ => ⟨I1.kIn, ?_⟩) (noStar hpl _ _) rfl
  cases r with
  | nil => exact q.elim
  | @cons _ u0 _ ur rv rr =>
  cases rr with
  | cons _ _ => exact q.elim
  | nil =>
  obtain ⟨f, c', params, body, scope, t, rfl, LO, q⟩ := q
  obtain rfl : u0 = Value.ref f := rv
  have rc : codeAny (model X.prog X.w) X.A (.call (.ref g) ⟨[.ref f], []⟩) (CR C8.CX0 X.stack X.prog X.w H1 s1 Q C8.E0) s1 := by
    refine run_ofS (N := Ng) (ps := [a]) (us := [.ref f]) (vs := [.ref f]) lk hcg Sg hr I1.env0 (hb s1 [.ref f] I1.kIn rfl) (.cons rfl .nil) rfl fun hr' => ?_
    obtain ⟨t', ht', hq'⟩ := hG f c' params body scope s1 H1 Q (fun E H' Q' => t E σ H' Q') (fun W pn xe p1 p2 tk => pe_actV (i := 0) (t := t) I1 LO.L LO.bind tk hr' (fun A outer s H E hr2 => LO.body A outer s H E hr2) hNg hva hd hcd) LO.fo LO.co q
    exact ⟨t', ht'.nox, hq'⟩
  refine wpAny_call (codeAny_mono rc fun r s2 hq => ?_)
  cases r with
  | error e => exact (show False from hq).elim
  | ok fl =>
    cases fl with
    | ret u => exact I1.after hq
    | next => exact False.elim hq
    | brk => exact False.elim hq
    | cont => exact False.elim hq
end Dat

/-! Bp -/
set_option linter.all false
set_option maxRecDepth 100000
set_option maxHeartbeats 2000000
/-! Bp: an own exception over an own class over ValueError, its __init__: super().__init__('..'); self.part = part. -/
namespace Dat
open PySem PySem.Spec L2 PyProof.Rows NdefX
/-- what the written part says, for super().__init__(..) in the __init__ at fI of the class at C, its code at cda, its cell at cc -/
structure BpK (prog : Program) (K : PySem.W.Frag) (C fI cc cda : Addr) : Prop where
  T : OexC K C
  fd : ∃ (oc : Value) (od : Option Addr) (fd : FuncData) (osl : Array (Option Value)) (ar : Arg), K.lookup fI = some ⟨oc, od, .func fd, osl⟩ ∧ (fd.params.posonlyargs ++ fd.params.args).head? = some ar ∧ ar.arg = ("self" : Str)
  code : ∃ (ccl : Value) (cdd : Option Addr) (vs : Array Value) (ccs : Array (Option Value)) (file : Str) (tf : Tok), K.lookup cda = some ⟨ccl, cdd, .fields vs, ccs⟩ ∧ vs[2]? = some (.str file tf) ∧ ((prog.main.file : Str) == file) = true
  cell : ∃ (cl : Value) (cld : Option Addr) (csl : Array (Option Value)), K.lookup cc = some ⟨cl, cld, .cell (some (.ref C)), csl⟩
  self : PySem.W.mroIn K C (.ref C) = some true
  ini : PySem.W.ks_superIn K C C "__init__" = some (some (.builtin "ValueError.__init__"))
  ve : PySem.W.subIn K (.ref C) (.type "ValueError") = some true
  opq : PySem.W.nsIn K cStatics "thirdparty.any" = some none
theorem exInit_of {K : PySem.W.Frag} {C : Addr} {h : Heap} (T : OexC K C) (X : K.In h) : ∃ nm q N bs bm sn sub ab col dd k0 k1 k2 k3 k5, h.get? C = some (excClassObj nm q C N bs bm true sn sub ab col dd k0 k1 k2 k3 k5 "ValueError.__new__") := by
  obtain ⟨nm, q, N, bs, bm, sn, sub, ab, col, dd, k0, k1, k2, k3, k5, hC, hbm⟩ := T.cls
  exact ⟨nm, q, N, bs, bm, sn, sub, ab, col, dd, k0, k1, k2, k3, k5, X _ _ hC⟩
theorem super_init {X : Cx} {pins : List (Addr × Obj)} {σ : L2.St} {H : Hp} {s : Shared} {C fI cc cda e : Addr} {body : List Stmt} {txt : Str} {kk : Nat} {p0 p1 p2 p3 p4 q0 : Pos} (B : BpK X.prog X.K C fI cc cda) (I : Inv X pins σ H s) (he : H e = some (exo e C none))
    (hks : X.env.kindOf "super" = some .globalImplicit) (hkc : X.env.kindOf "__class__" = some .free) (hkl : X.env.kindOf "self" = some .local) (hfu : X.env.func = some fI) (hco : X.env.code = .ref cda) (hcl : X.env.cells.lookup ("__class__" : Str) = some cc)
    (hN : X.N[0]? = some ("self" : Str)) (h0 : σ[0]? = some (some (.ref e))) (hsup : X.mg "super" = none) (htop : (X.prog.main.scope.names.lookup ("super" : Str)).isSome = false) (hint : interactive X.env = false) {pl : Sem Bool}
    (hev : eval (.Call (.Attribute (.Call (.Name "super" p0) [] [] p1) "__init__" p2) [.Constant (.str txt) kk p3] [] p4) X.env = (do
      let ov ← attributeBase (.Call (.Name "super" p0) [] [] p1) "__init__" X.env (eval (.Call (.Name "super" p0) [] [] p1) X.env)
      standAt p2.atName
      let (f, first) ← holding [ov] (getMethod ov "__init__" pl)
      callWith p4 f first (backTo p4 (starEach [.Constant (.str txt) kk p3] X.env)) [])) :
    PySem.wpAt (model X.prog X.w) X.A (.func body X.env) (exec (.Expr (.Call (.Attribute (.Call (.Name "super" p0) [] [] p1) "__init__" p2) [.Constant (.str txt) kk p3] [] p4) q0) X.env) (fun fl s' => fl = .next ∧ Inv X pins σ H s') X.xe s := by
  obtain ⟨oc, od, fd, osl, ar, lk, hp, ha⟩ := B.fd
  obtain ⟨ccl, cdd, vs, ccs, file, tf, hcode, hvs, hfile⟩ := B.code
  obtain ⟨cl, cld, csl, hcell⟩ := B.cell
  refine ks_wpAt_Expr_any (ks_wpAt_MethodCall (ks_wpAt_super_base hks hkc (by decide) hfu (I.kIn _ _ lk) rfl hp hco (I.kIn _ _ hcode) rfl hvs hfile htop ?_) hev) hint
  obtain ⟨mb, hb1, hb2⟩ := I.mod.blt
  refine PySem.W.ks_loadName_global I.ok.kind hks (Calls.loadGlobal_builtin (by rw [I.ok.glob]; exact I.mod.glob.keeps I.bk) hsup (by rw [I.ok.blt]; exact hb1.keeps I.bk) ((hb2 _ (by decide)).trans PyProof.Rows.Boot.«super») ⟨rfl, ?_⟩)
  refine wpAny_loadName_free I.ok.kind hkc hcl ⟨_, I.kIn _ _ hcell, rfl⟩ ?_
  obtain ⟨m, hns, hl⟩ := I.loc
  obtain ⟨u, ru, hu⟩ := hl 0 "self" (.ref e) hN h0 (.inl hkl)
  obtain rfl : u = Value.ref e := ru
  rcases hu with ⟨_, hu⟩ | ⟨hu, _⟩
  case inr => rw [hkl] at hu; rcases hu with z | z <;> cases z
  rw [ha]
  refine wpAny_loadName_local I.ok.kind hkl hns hu ?_
  obtain ⟨nm, q, N, bs, bm, sn, sub, ab, col, dd, k0, k1, k2, k3, k5, hC⟩ := exInit_of B.T I.kIn
  refine ks_wpAny_isType_cls hC rfl ⟨rfl, ?_⟩
  obtain ⟨t1, ho⟩ := exo_at I.hok he
  obtain ⟨hp1, g, d, t, os⟩ := s
  refine ks_wpAny_call_super hC rfl ho rfl (fun c z => nomatch z) (PySem.W.looks_mroIn I.kIn B.self) (fun h' hso k => ?_)
  have I1 : Inv X pins σ H ⟨h', g, d, t, os⟩ := I.kept (t' := t) k
  have hne : e ≠ C := fun z => by
    have z2 : hp1.get? e = some _ := ho
    rw [z, hC] at z2
    cases z2
  obtain ⟨cd, hcd⟩ : ∃ cd, PySem.W.clsIn X.K C = some cd := by
    have := B.ini
    unfold PySem.W.ks_superIn at this
    cases hc : PySem.W.clsIn X.K C with
    | none => rw [hc] at this; cases this
    | some cd => exact ⟨cd, rfl⟩
  have hm := B.ini
  unfold PySem.W.ks_superIn at hm
  rw [hcd] at hm
  have IA : PySem.W.InstAt h' e ({ cls := .ref C, dict := none, data := .fields #[.ref t1, .none, .none, .none, .bool false, .none] } : Obj) C none := ⟨k _ _ ho, rfl, rfl, trivial⟩
  have LE : PySem.W.Looks (model X.prog X.w) h' (isInstance (.ref e) (.type "ValueError")) true := IA.type.andThen (PySem.W.looks_subIn I1.kIn B.ve)
  refine PySem.W.kxs_getMethod PySem.W.kxs_ValueError hso (PySem.W.looks_opaque I1.kIn B.opq) (l₀ := cd.mro) ?_ rfl I1.kIn hm LE hne (by decide) ?_
  · exact fun A Q E s k q => wpAny_bind ((PySem.W.looks_clsIn I1.kIn hcd) A _ E s k (wpAny_pure q))
  have I2 : Inv X pins σ H ⟨h'.push (PySem.W.kxs_mw "ValueError.__init__" e), g, d, t + 1, os⟩ := I1.kept (t' := t + 1) fun b o z => Heap.get?_push_of_some _ z
  have hu2 : (h'.push (PySem.W.kxs_mw "ValueError.__init__" e)).get? h'.objs.size = some (PySem.W.kxs_mw "ValueError.__init__" e) := Heap.get?_push_at rfl rfl
  have hpl : (backTo p4 (starEach [Expr.Constant (.str txt) kk p3] X.env)).any (·.1) = false := by rfl
  refine PySem.W.kxs_callWith (i := "ValueError.__init__") (x := e) hpl (PySem.Calls.evalArgs_plain ?_)
  have PAs : PA X [Expr.Constant (.str txt) kk p3] (tCons (tC (.str txt)) tNil) := pa_cons pe_str pa_nil rfl
  have nu : H h'.objs.size = none := I1.hok.fresh (Nat.le_refl _)
  have I3 : Inv X ((h'.objs.size, PySem.W.kxs_mw "ValueError.__init__" e) :: pins) σ H ⟨h'.push (PySem.W.kxs_mw "ValueError.__init__" e), g, d, t + 1, os⟩ := I2.pins_of fun p hp => by
    rcases List.mem_cons.mp hp with rfl | hp
    · exact ⟨hu2, nu, Nat.ne_of_gt I1.lt, I1.nofs (Nat.le_refl _), fun v z => nomatch z⟩
    · exact I2.pin p (List.mem_append_right _ hp)
  refine thn (PAs.run p4 _ _ σ H (fun vs H1 => vs = [.str txt] ∧ H1 = H) I3 ⟨rfl, rfl⟩) (fun us s1 hq => ?_)
  obtain ⟨vs, H1, J, r, rfl, rfl⟩ := hq
  have hu3 := (J.pin _ (List.mem_append_right _ List.mem_cons_self)).1
  refine ⟨hu3, ?_⟩
  have J1 : Inv X pins σ H1 s1 := J.pins_of fun p hp => J.pin p (List.mem_append_right _ (List.mem_cons_of_mem _ hp))
  obtain ⟨t2, ho2⟩ := exo_at J1.hok he
  obtain ⟨nm, q, N, bs, bm, sn, sub, ab, col, dd, k0, k1, k2, k3, k5, hC2⟩ := exInit_of B.T J1.kIn
  have hus : us.length ≤ sizeLine := by
    have := r.length
    rw [← this]
    show 1 ≤ sizeLine
    decide
  obtain ⟨hh, g', d', tk, os'⟩ := s1
  refine wpAny_call (codeAny_of_tree ?_)
  show wpAny _ X.A.in1 (callAny (.ref h'.objs.size) ⟨us, []⟩) _ _ _
  simp only [callAny]
  refine wpAny_bind (wpAny_load hu3 ?_)
  simp only [PySem.W.kxs_mw, show (Value.type "method-wrapper" == Value.type "method" || Value.type "method-wrapper" == Value.type "builtin_function_or_method" || Value.type "method-wrapper" == Value.type "method-wrapper") = true by decide, if_true]
  refine PySem.W.KFB.if_so (by decide) ?_
  refine wpAny_bind (PySem.W.check_bound_init F.excBase_ValueError.toExcCallFacts hC2 ho2 rfl ?_)
  refine wpAny_bind (wpAny_pure (wpAny_pure ?_))
  refine ⟨plainId_quiet F.excBase_ValueError.init.plain _, codeAny_builtin F.excBase_ValueError.initEntry ?_⟩
  refine PySem.W.exc_init_tree (cls := .ref C) (t0 := t2) (dv := none) (c2 := .none) (c3 := .none) (b4 := .bool false) ho2 hus fun h4 k4 e4 _ => ?_
  refine ⟨trivial, ?_⟩
  have J2 := J1.write (t' := tk) (x := e) (e := e) (o := exo e C none) (by rw [he]; exact True.intro) (.inl rfl) k4 ⟨_, e4⟩ (exo_ok e4)
  have eu : upd H1 e (exo e C none) = H1 := by
    funext b
    by_cases hb : b = e
    · rw [hb, upd_same, he]
    · rw [upd_ne hb]
  rw [eu] at J2
  exact J2
/-- __init__'s promise: the exception at e gets its own dict -/
def spBp (C : Addr) : Sp := fun vs H Q _ => ∃ (e : Addr) (v : V), vs = [.ref e, v] ∧ H e = some (exo e C none) ∧ ∀ dx, H dx = none → dx ≠ e → Q .non (upd (upd H dx (exd dx [("part", v)])) e (exo e C (some dx)))
abbrev bpBody (txt : Str) (kk : Nat) (p0 p1 p2 p3 p4 q0 a1 a2 a3 a4 : Pos) : List Stmt := [.Expr (.Call (.Attribute (.Call (.Name "super" p0) [] [] p1) "__init__" p2) [.Constant (.str txt) kk p3] [] p4) q0, .Assign [.Attribute (.Name "self" a1) "part" a2] (.Name "part" a3) a4]
theorem fn_bp {CX : CXT} {P : Program} {w : World} {K : PySem.W.Frag} {mg : Str → Option Value} {base : Heap} {k : Nat} {fI C cc cda : Addr} {qual txt : Str} {params : Arguments} {scope : Scope} {dV kV doc pm ct oc : Value} {an od : Option Addr} {osl : Array (Option Value)} {kk : Nat} {p0 p1 p2 p3 p4 q0 a1 a2 a3 a4 : Pos}
    (B : BpK P K C fI cc cda) (lk : K.lookup fI = some ⟨oc, od, .func (PySem.W.fnX "__init__" qual params (bpBody txt kk p0 p1 p2 p3 p4 q0 a1 a2 a3 a4) scope [("__class__", cc)] dV kV doc pm an (.ref cda) ct), osl⟩) (hcd : PySem.W.codeIn K (.ref cda) qual = true)
    (S : NScope ["self", "part", "__class__"] ["self", "part"] ["__class__"] scope) (hks : scope.names.lookup ("super" : Str) = some .globalImplicit) (hno : PySem.W.findIn K (.ref C) "part" = some none) (hsup : mg "super" = none) (htop : (P.main.scope.names.lookup ("super" : Str)).isSome = false) {pl : Sem Bool}
    (hev : ∀ env : Env, eval (.Call (.Attribute (.Call (.Name "super" p0) [] [] p1) "__init__" p2) [.Constant (.str txt) kk p3] [] p4) env = (do
      let ov ← attributeBase (.Call (.Name "super" p0) [] [] p1) "__init__" env (eval (.Call (.Name "super" p0) [] [] p1) env)
      standAt p2.atName
      let (f, first) ← holding [ov] (getMethod ov "__init__" pl)
      callWith p4 f first (backTo p4 (starEach [.Constant (.str txt) kk p3] env)) [])) :
    FnOk P w K mg base CX (k + 1) fI (PySem.W.fnX "__init__" qual params (bpBody txt kk p0 p1 p2 p3 p4 q0 a1 a2 a3 a4) scope [("__class__", cc)] dV kV doc pm an (.ref cda) ct) ["self", "part"] (spBp C) := by
  refine ⟨fun vs H Q E ⟨e, v, h, _⟩ => by rw [h] <;> rfl, fun A outer s H args us vs Q E hr e0 hb r hsp => ?_⟩
  have hl : vs.length = 2 := by obtain ⟨e, v, h, _⟩ := hsp; rw [h] <;> rfl
  obtain ⟨e, v, rfl, he, hq⟩ := hsp
  have KX : K.In s.heap := e0.mod.kin.keeps fun b o e => (e0.bs b o e).1
  have lim : s.heap.NoLimit := e0.mod.nolimit.keeps fun b o e => (e0.bs b o e).1
  obtain ⟨ccl, ccld, csl, hcell⟩ := B.cell
  refine PySem.ks_codeAny_call_defAt (fd := PySem.W.fnX "__init__" qual params (bpBody txt kk p0 p1 p2 p3 p4 q0 a1 a2 a3 a4) scope [("__class__", cc)] dV kV doc pm an (.ref cda) ct) (binds := (["self", "part"] : List Str).zip us) hr.depth (KX _ _ lk) rfl lim (PySem.W.codeRec_of KX hcd) rfl hb S.nocell (fun ⟨n, _⟩ hy => S.par n (List.of_mem_zip hy).1) (fun h₀ hns kp => ?_) S.co S.gen S.kind
  have hCC : CellsAt [(("__class__" : Str), cc)] ["__class__"] [some (.ref C)] s.heap H := by
    have hH : H cc = none := (e0.bs cc _ (e0.mod.kin _ _ hcell)).2
    have one : ∀ {y : Str} {c : Addr}, ([(("__class__" : Str), cc)] : List (Str × Addr)).lookup y = some c → y = "__class__" ∧ c = cc := fun {y c} h => by
      rw [List.lookup_cons] at h
      split at h
      · rename_i z
        exact ⟨beq_iff_eq.mp z, (Option.some.inj h).symm⟩
      · cases h
    refine ⟨rfl, fun y c h => ?_, fun x y c h1 h2 => (one h1).1.trans (one h2).1.symm, fun i y h => ?_⟩
    · obtain ⟨_, rfl⟩ := one h
      exact ⟨hH, _, _, KX _ _ hcell, rfl⟩
    · cases i with
      | zero =>
        cases h
        refine ⟨cc, by rw [List.lookup_cons]; simp, fun v hv => ?_⟩
        cases hv
        exact ⟨.ref C, rfl, _, KX _ _ hcell, rfl⟩
      | succ i => cases h
  have I := inv_startN (CX := CX) (E := E) (tk := s.toks + ((["self", "part"] : List Str).zip us).length) (F := ⟨"__init__", qual, params, bpBody txt kk p0 p1 p2 p3 p4 q0 a1 a2 a3 a4, scope, [("__class__", cc)], cda⟩) (f := fI) S hr.hd e0 hl r hCC hns kp
  show PySem.wpAt (model P w) _ (.func _ (ncx CX P w K mg base ["self", "part", "__class__"] ⟨"__init__", qual, params, bpBody txt kk p0 p1 p2 p3 p4 q0 a1 a2 a3 a4, scope, [("__class__", cc)], cda⟩ fI A outer s H E).env) (execs _ (ncx CX P w K mg base ["self", "part", "__class__"] ⟨"__init__", qual, params, bpBody txt kk p0 p1 p2 p3 p4 q0 a1 a2 a3 a4, scope, [("__class__", cc)], cda⟩ fI A outer s H E).env) _ _ _
  have hsl : scope.names.lookup ("self" : Str) = some .local := S.par _ (by simp)
  have hpl : scope.names.lookup ("part" : Str) = some .local := S.par _ (by simp)
  have hint : interactive (ncx CX P w K mg base ["self", "part", "__class__"] ⟨"__init__", qual, params, bpBody txt kk p0 p1 p2 p3 p4 q0 a1 a2 a3 a4, scope, [("__class__", cc)], cda⟩ fI A outer s H E).env = false := by unfold interactive; simp [ncx, envF, S.kind]
  refine ks_wpAt_execs_cons (ks_wpAt_mono (super_init (e := e) (pl := pl) B I he hks (S.frk _ (by simp)) hsl rfl rfl rfl rfl rfl hsup htop hint (hev _)) (fun fl s' h => ?_) fun er s' z => z)
  obtain ⟨rfl, J⟩ := h
  have st := pss_one (X := ncx CX P w K mg base ["self", "part", "__class__"] ⟨"__init__", qual, params, bpBody txt kk p0 p1 p2 p3 p4 q0 a1 a2 a3 a4, scope, [("__class__", cc)], cda⟩ fI A outer s H E)
    (ps_ost (o := .Name "self" a1) (e := .Name "part" a3) (f := "part") (p' := a2) (pos := a4) (pe_var (i := 0) rfl (.inl hsl) (by decide) (by decide)) (pe_var (i := 1) rfl (.inl hpl) (by decide) (by decide)))
  refine wpAt_of_wpAny (wpAny_mono (st.run [] s' _ H { nx := fun _ H' => Q .non H', rt := Q } J ?_) (fun fl s'' hs => ?_) fun er s'' z => z)
  · exact ⟨v, rfl, .ref e, rfl, e, C, rfl, B.T, hno, .inl ⟨he, fun dx h1 h2 => hq dx h1 h2⟩⟩
  · cases fl with
    | ret u =>
      obtain ⟨v', σ', H', J', rv, q⟩ := hs
      exact ⟨v', H', J'.os, J'.bare, J'.base, J'.hok, rv, q⟩
    | next =>
      obtain ⟨σ', H', J', q⟩ := hs
      exact ⟨.non, H', J'.os, J'.bare, J'.base, J'.hok, rfl, q⟩
    | brk =>
      obtain ⟨_, _, _, q⟩ := hs
      exact False.elim q
    | cont =>
      obtain ⟨_, _, _, q⟩ := hs
      exact False.elim q
end Dat

/-! ToldE -/
set_option linter.all false
set_option maxRecDepth 100000
set_option maxHeartbeats 4000000
/-! ToldE: the law's told: which classes what is raised is of. -/
namespace Dat
open PySem PySem.Spec L2 PyProof.Rows LamX
/-- an own dict of an exception stands -/
def DictAt (d : Option Addr) (H : Hp) : Prop := ∀ dx, d = some dx → ∃ fs, H dx = some (.xd fs)
def rIsE2 (K : PySem.W.Frag) (D a : Addr) (d : Option Addr) : List V → Hp → VK → Prop := fun xs H Q => ∃ (c : V) (cv : Value) (b : Bool), xs = [.ref a, c] ∧ (∀ u, RelV c u → u = cv) ∧ PySem.W.kitOne K (.ref D) cv = some b ∧ DictAt d H ∧ Q (.bl b) H
theorem call_isE2 {X : Cx} {a D : Addr} {d : Option Addr} {oe : Obj} {pn : List (Addr × Obj)} (C : L2.ExcC X.K D) (hz : Zc (.ref D) d oe) (hf : ∃ vs, oe.data = .fields vs) : CallR (X.suite a ((a, oe) :: pn)) (.builtin "isinstance") (rIsE2 X.K D a d) := by
  intro pins s σ H xs us Q I r ⟨c, cv, b, e0, hcv, e, hd, q⟩
  subst e0
  cases r with
  | @cons _ u1 _ us1 rx rr =>
  cases rr with
  | @cons _ u2 _ us2 rt rr =>
  cases rr
  obtain rfl : u1 = Value.ref a := rx
  obtain rfl := hcv _ rt
  obtain ⟨hget, _⟩ := I.pin (a, oe) (List.mem_append.mpr (.inl List.mem_cons_self))
  obtain ⟨vs, hv⟩ := hf
  obtain ⟨od, J⟩ : ∃ od, PySem.W.InstAt s.heap a oe D od := by
    obtain ⟨oc, odd, oda, osl⟩ := oe
    obtain ⟨h1, h2⟩ := hz
    dsimp only at h1 h2 hv
    subst h1 h2 hv
    cases odd with
    | none => exact ⟨none, hget, rfl, rfl, trivial⟩
    | some dx =>
      obtain ⟨fs, hx⟩ := hd dx rfl
      obtain ⟨mA, ⟨o, es, ep, ho, _⟩, _⟩ := I.hok dx _ hx
      exact ⟨some o, hget, rfl, rfl, ho⟩
  have hcl : (PySem.W.clsIn X.K D).isSome = true := by
    obtain ⟨cd, h1, _⟩ := PySem.W.any_some C.hd
    rw [h1] <;> rfl
  exact PySem.W.kia_one (PySem.W.kitx_exc hcl C.hg C.hk C.hs C.ha C.hn C.ht C.hm) I.kIn J e (fun z => nomatch z) fun tk => ⟨.bl b, H, I.kept (t' := tk) fun _ _ z => z, rfl, q⟩
/-- the classes that the law asks for, in its order -/
def exN : List Str := ["BadNumber", "BadTerm", "BadPaper", "NoWay", "TooLarge", "BadDeed"]
/-- what the law asks of the errors' classes -/
structure X31 (K : PySem.W.Frag) (mg : Str → Option Value) : Prop where
  cls : ∀ x ∈ exN, mg x = some (.ref (He.ga K x))
  rf : mg "RealFault" = some (.ref (He.ga K "RealFault"))
  isi : mg "isinstance" = none
  ve : mg "ValueError" = none
  exc : ∀ x ∈ exN, L2.ExcC K (He.ga K x)
  exm : ∀ x ∈ exN, PySem.W.exmOne K (.ref (He.ga K x)) (.ref (He.ga K "RealFault")) = some true
  kit : ∀ x ∈ exN, ∀ y ∈ exN, PySem.W.kitOne K (.ref (He.ga K x)) (.ref (He.ga K y)) = some (x == y)
  kitV : ∀ x ∈ exN, PySem.W.kitOne K (.ref (He.ga K x)) (.type "ValueError") = some true
/-- what is told of an exception of the class x -/
def toldV (x : Str) : List V := exN.map (fun y => V.bl (x == y)) ++ [.bl true]
def suite66 : List Stmt := match defBody (K31.top 66) with
  | .Try _ (.ExceptHandler _ _ s _ :: _) _ _ _ :: _ => s
  | _ => []
abbrev N66 : List Str := ["what", "e", "some"]
abbrev sc66 : Scope := defScope (K31.top 66)
theorem nd66 : N66.Nodup := by decide +kernel
theorem keep_new {H : Hp} {p b : Addr} {o u : HO} (e : H b = some o) (n : H p = none) : upd H p u b = some o := (upd_ne (ne_of_none e n)).trans e
theorem none_of {H : Hp} {p q : Addr} {o : HO} (np : H p = none) (h : upd H p o q = none) : H q = none := by
  by_cases e : q = p
  · rw [e]; exact np
  · rw [upd_ne e] at h; exact h
theorem suite31 {X : Cx} (F : X31 X.K X.mg) (hN : X.N = N66) (hsc : X.env.scope = sc66) (hfn : ∀ x, X.fn x = true) {x : Str} (hx : x ∈ exN) {a : Addr} {oe : Obj} {d : Option Addr} {pn : List (Addr × Obj)} (hz : Zc (.ref (He.ga X.K x)) d oe) (hf : ∃ vs, oe.data = .fields vs) :
    PSs (X.suite a ((a, oe) :: pn)) suite66 (fun D σ H => σ[1]? = some (some (.ref a)) ∧ σ.length = 3 ∧ DictAt d H ∧ ∀ L H2, (∀ b o, H b = some o → H2 b = some o) → H L = none → H2 L = some (.lst (toldV x)) → D.rt (.ref L) H2) := by
  have glb : ∀ {y : Str}, sc66.names.lookup y = some .globalImplicit → Gl (X.suite a ((a, oe) :: pn)) y := fun {y} h => by
    show X.env.scope.names.lookup y = _
    rw [hsc]; exact h
  have vis : ∀ {y : Str}, sc66.names.lookup y = some .local → Vis (X.suite a ((a, oe) :: pn)).env.scope y := fun {y} h => .inl (by
    show X.env.scope.names.lookup y = _
    rw [hsc]; exact h)
  have hn : ∀ i : Nat, (X.suite a ((a, oe) :: pn)).N[i]? = N66[i]? := fun i => by
    show X.N[i]? = _
    rw [hN]
  have pE : ∀ {p : Pos}, PE (X.suite a ((a, oe) :: pn)) (.Name "e" p) (tVar 1) := pe_var (hn 1) (vis (by decide +kernel)) (by decide) (by decide)
  have isC : ∀ {y : Str} {p1 p2 p3 p4 : Pos}, y ∈ exN → sc66.names.lookup y = some .globalImplicit → (y == ("__debug__" : Str)) = false → PE (X.suite a ((a, oe) :: pn)) (.Call (.Name "isinstance" p1) [.Name "e" p2, .Name y p3] [] p4) (tCB (rIsE2 X.K (He.ga X.K x) a d) (tCons (tVar 1) (tCons (tC (.ref (He.ga X.K y))) tNil))) := fun {y p1 p2 p3 p4} hy hg hd =>
    pe_callB (call_isE2 (F.exc x hx) hz hf) (glb (by decide +kernel)) F.isi PyProof.Rows.boot_isinstance (pa_cons pE (pa_cons (pe_glob (glb hg) (F.cls y hy) rfl hd) pa_nil rfl) rfl)
  have isV : ∀ {p1 p2 p3 p4 : Pos}, PE (X.suite a ((a, oe) :: pn)) (.Call (.Name "isinstance" p1) [.Name "e" p2, .Name "ValueError" p3] [] p4) (tCB (rIsE2 X.K (He.ga X.K x) a d) (tCons (tVar 1) (tCons (tC (.ty "ValueError")) tNil))) := fun {p1 p2 p3 p4} =>
    pe_callB (call_isE2 (F.exc x hx) hz hf) (glb (by decide +kernel)) F.isi PyProof.Rows.boot_isinstance (pa_cons pE (pa_cons (pe_bltn (glb (by decide +kernel)) F.ve PyProof.Rows.Boot.«ValueError» rfl) pa_nil rfl) rfl)
  refine PSs.imp (pss_cons (ps_set (i := 2) (X := X.suite a ((a, oe) :: pn)) (by show X.N.Nodup; rw [hN]; exact nd66) (hn 2) (.inl (by show X.env.scope.names.lookup _ = _; rw [hsc]; decide +kernel)) (pe_lst (pa_cons (isC (y := "BadNumber") (by decide +kernel) (by decide +kernel) (by decide)) (pa_cons (isC (y := "BadTerm") (by decide +kernel) (by decide +kernel) (by decide)) (pa_cons (isC (y := "BadPaper") (by decide +kernel) (by decide +kernel) (by decide)) (pa_cons (isC (y := "NoWay") (by decide +kernel) (by decide +kernel) (by decide)) pa_nil rfl) rfl) rfl) rfl)) rfl (.inl (hfn _)))
    (pss_one (ps_ret (pe_op op_cat (pe_var (i := 2) (hn 2) (vis (by decide +kernel)) (by decide) (by decide)) (pe_lst (pa_cons (isC (y := "TooLarge") (by decide +kernel) (by decide +kernel) (by decide)) (pa_cons (isC (y := "BadDeed") (by decide +kernel) (by decide +kernel) (by decide)) (pa_cons isV pa_nil rfl) rfl) rfl)))))) fun D σ H ⟨h1, h2, h3, h4⟩ => ?_
  have stepC : ∀ {σ : L2.St} {H : Hp} {Q : VK} {y : Str}, σ[1]? = some (some (.ref a)) → DictAt d H → y ∈ exN → Q (.bl (x == y)) H → (tCB (rIsE2 X.K (He.ga X.K x) a d) (tCons (tVar 1) (tCons (tC (.ref (He.ga X.K y))) tNil))) σ H Q := fun {σ H Q y} e hd hy q =>
    ⟨.ref a, e, .ref (He.ga X.K y), .ref (He.ga X.K y), _, rfl, fun u r => r, F.kit x hx y hy, hd, q⟩
  have stepV : ∀ {σ : L2.St} {H : Hp} {Q : VK}, σ[1]? = some (some (.ref a)) → DictAt d H → Q (.bl true) H → (tCB (rIsE2 X.K (He.ga X.K x) a d) (tCons (tVar 1) (tCons (tC (.ty "ValueError")) tNil))) σ H Q := fun {σ H Q} e hd q =>
    ⟨.ref a, e, .ty "ValueError", .type "ValueError", _, rfl, fun u r => r, F.kitV x hx, hd, q⟩
  refine stepC h1 h3 (by decide +kernel) (stepC h1 h3 (by decide +kernel) (stepC h1 h3 (by decide +kernel) (stepC h1 h3 (by decide +kernel) ⟨by show 4 ≤ sizeLine; decide, fun p np => ?_⟩)))
  have d1 : DictAt d (upd H p (.lst [.bl (x == "BadNumber"), .bl (x == "BadTerm"), .bl (x == "BadPaper"), .bl (x == "NoWay")])) := fun dx e => by
    obtain ⟨fs, h⟩ := h3 dx e
    exact ⟨fs, (upd_ne (ne_of_none h np)).trans h⟩
  have g1 : (σ.set 2 (some (.ref p)))[1]? = some (some (.ref a)) := (List.getElem?_set_ne (by decide)).trans h1
  have g2 : (σ.set 2 (some (.ref p)))[2]? = some (some (.ref p)) := List.getElem?_set_self (by omega)
  refine ⟨.ref p, g2, stepC g1 d1 (by decide +kernel) (stepC g1 d1 (by decide +kernel) (stepV g1 d1 ⟨by show 3 ≤ sizeLine; decide, fun p2 np2 => ?_⟩))⟩
  have npp : p ≠ p2 := fun e => by
    rw [← e, upd_same] at np2
    cases np2
  refine ⟨p, p2, _, _, rfl, rfl, (upd_ne npp).trans upd_same, upd_same, by show 7 ≤ sizeLine; decide, fun p3 np3 => h4 p3 _ (fun b o e => ?_) (none_of np (none_of np2 np3)) upd_same⟩
  exact keep_new (keep_new (keep_new e np) np2) np3
/-- what told makes of the lambda's reading: it raises one of the classes -/
def TT31 (K : PySem.W.Frag) : (XK → Hp → VK → Prop) → Hp → VK → Prop := fun tl H Q => ∀ N : VK, tl (fun cls d H' => ∃ x ∈ exN, cls = .ref (He.ga K x) ∧ DictAt d H' ∧ ∀ L H2, (∀ b o, H' b = some o → H2 b = some o) → H' L = none → H2 L = some (.lst (toldV x)) → Q (.ref L) H2) H N
theorem told31 {X : Cx} {g : Addr} {cdg : Value} (F : X31 X.K X.mg) : GivesV X N66 "_law_told" sc66 g cdg (defBody (K31.top 66)) "what" (TT31 X.K) := by
  intro f c' params body scope s H Q tl act hf hc h
  refine ⟨_, pss_cons (ps_try_as (X := (cxOf C8.CX0 X.prog X.w X.K X.mg X.base N66 "_law_told" sc66 g cdg X.A X.stack s H C8.E0).nox) (i := 1) (c := .ref (He.ga X.K "RealFault")) (Wout := fun _ _ _ _ => False)
      (tb := fun W D σ H => σ[0]? = some (some (.ref f)) ∧ H f = some (laO X f c' params body scope) ∧ H c' = some (CodeO c' (X.env.qual ++ "<lambda>")) ∧ ∃ Ech : XK, (∀ cls d H', Ech cls d H' → W cls d σ H') ∧ tl Ech H (fun _ H1 => D.nx σ H1))
      (ts := fun a cls d D σ H => ∃ x ∈ exN, cls = .ref (He.ga X.K x) ∧ σ[1]? = some (some (.ref a)) ∧ σ.length = 3 ∧ DictAt d H ∧ ∀ L H2, (∀ b o, H b = some o → H2 b = some o) → H L = none → H2 L = some (.lst (toldV x)) → D.rt (.ref L) H2)
      rfl rfl nd66 rfl (show sc66.names.lookup _ = _ by decide +kernel) ⟨(show sc66.names.lookup _ = _ by decide +kernel), by decide, .inl F.rf⟩ takes_none5 (fun W pn xe tk _ => ?_) (fun a oe cls d pn hz hv => ?_)) (pss_one (ps_ret (pe_lst pa_nil))), ?_⟩
  · exact PSs.imp (pss_one (ps_expr (act W pn xe _ _ tk))) fun D σ H' h => h
  · refine ⟨fun pins s' σ H' D I ⟨x, hx, e, h1, h2, h3, h4⟩ => ?_⟩
    subst e
    exact (suite31 (X := (cxOf C8.CX0 X.prog X.w X.K X.mg X.base N66 "_law_told" sc66 g cdg X.A X.stack s H C8.E0).nox) F rfl rfl (fun _ => rfl) hx hz hv).run pins s' σ H' D I ⟨h1, h2, h3, h4⟩
  · refine ⟨rfl, hf, hc, fun cls d H' => ∃ x ∈ exN, cls = .ref (He.ga X.K x) ∧ DictAt d H' ∧ ∀ L H2, (∀ b o, H' b = some o → H2 b = some o) → H' L = none → H2 L = some (.lst (toldV x)) → Q (.ref L) H2, fun cls d H' ⟨x, hx, e, h1, h2⟩ => ⟨true, ?_, fun _ a ha => ⟨x, hx, e, rfl, rfl, h1, h2⟩, fun z => nomatch z⟩, h _⟩
    rw [e]
    exact F.exm x hx
end Dat

/-! Dat28 -/
set_option linter.all false
set_option maxRecDepth 100000
set_option maxHeartbeats 4000000
/-! Dat28: a def told by hand stands on the same ground: Good of its body. -/
namespace Dat
open PySem PySem.Spec L2 PyProof.Rows
def LawI.ctxOf (L : LawI) (N : List Str) (sc : Scope) : Ctx := ⟨N, sc, false, L.fns, L.glos, L.exs, [], false, [], false⟩
theorem fnsOk_ctx {c c' : Ctx} (h : c'.fns = c.fns) {Pg : Prog} {n : Nat} {T : List (Addr × Str)} {P : Program} {w : World} {K : PySem.W.Frag} {mg : Str → Option Value} {base : Heap} (F : FnsOk c Pg n T P w K mg base) : FnsOk c' Pg n T P w K mg base :=
  ⟨fun i q hq => F.fn i q (by rw [← h]; exact hq), fun i q fi hq hf => F.np i q fi (by rw [← h]; exact hq) hf⟩
theorem good_plain {L : LawI} {T : List (Addr × Str)} {P : Program} {w : World} {K : PySem.W.Frag} {mg : Str → Option Value} {base : Heap} (F : Facts L T K mg) (ht : L.told = []) {n : Nat} {N ps : List Str} {qual : Str} {sc : Scope} (S : FnScope N ps sc) {f : Addr} {cdv : Value} {A : Around} {outer : List Env} {s : Shared} {H : Hp} {E : XK}
    (hr : Room n (A.deeper (envOfC qual sc s.heap.objs.size f cdv))) (fns : ∀ k, k ≤ n → FnsOk (L.ctxOf N sc) L.prog k T P w K mg base) :
    Good (L.ctxOf N sc) (L.prog.ctl (runF L.prog n) (runF L.prog (n - 2)) n) L.prog n T (cxOf (L2.CX P w) P w K mg base N qual sc f cdv A outer s H E) (fun cls d _ H => E cls d H) where
  call := rfl
  lam := fun h => by cases h
  gen := fun h => by cases h
  two := fun i cl h => by
    have e : (L.prog.ctl (runF L.prog n) (runF L.prog (n - 2)) n).told = [] := by
      unfold Prog.ctl LawI.prog
      simp only [ht]
      split <;> rfl
    rw [e] at h
    cases h
  calm := rfl
  nd := S.nd
  hN := rfl
  sc := rfl
  room := hr
  tk := takes_of rfl rfl rfl rfl
  po := passes_of rfl
  fn := fun _ _ => rfl
  fnB := fun x hx => absurd hx (by unfold LawI.ctxOf; simp)
  fns := fns
  glos := F.glos
  blt := F.blt
  told := fun i cl h => by
    have e : (L.prog.ctl (runF L.prog n) (runF L.prog (n - 2)) n).told = [] := by
      unfold Prog.ctl LawI.prog
      simp only [ht]
      split <;> rfl
    rw [e] at h
    cases h
  exm := F.exm
  exs := fun x hx => by
    obtain ⟨h1, h2, h3, h4, h5⟩ := F.exs x hx
    exact ⟨h1, h2, h3, raises_own h4 h5⟩
/-- a store that holds nothing -/
theorem sto_nil {K : PySem.W.Frag} {T : List (Addr × Str)} {H : Hp} (t : LamX.Tabs T H) : Sto K T [] H [] := ⟨rfl, List.nodup_nil, fun i c h => by simp at h, t⟩
theorem renv_nil {K : PySem.W.Frag} {H : Hp} (σ : L2.St) : REnv K [] H (List.replicate σ.length none) σ := ⟨by simp, fun i d h => by
  rw [List.getElem?_replicate] at h
  split at h <;> cases h⟩
theorem ext_new {H : Hp} {ρ : List Addr} {p : Addr} {o : HO} (np : H p = none) : Ext ρ H ρ (upd H p o) := ⟨List.prefix_refl _, fun a u h _ _ => (upd_ne (ne_of_none h np)).trans h, fun _ h n => absurd h n⟩
theorem tabs_new {T : List (Addr × Str)} {H : Hp} {p : Addr} {o : HO} (np : H p = none) (t : LamX.Tabs T H) : LamX.Tabs T (upd H p o) := t.ext fun b u e => (upd_ne (ne_of_none e np)).trans e
end Dat

/-! CF -/
set_option linter.all false
set_option maxRecDepth 100000
/-! CF: whole parts of a part, one behind another. -/
namespace Dat
def cfR : Nat → Rat → List Int
  | 0, _ => []
  | n + 1, v => v.floor :: (if v - v.floor = 0 then [] else cfR n (1 / (v - v.floor)))
def Done : Rat → Nat → Prop
  | _, 0 => False
  | v, n + 1 => v - v.floor = 0 ∨ Done (1 / (v - v.floor)) n
def cfv : List Int → Rat
  | [] => 0
  | [k] => k
  | k :: l => k + 1 / cfv l
theorem cfv_cons {k : Int} {l : List Int} (h : l ≠ []) : cfv (k :: l) = k + 1 / cfv l := by
  cases l with
  | nil => exact absurd rfl h
  | cons a l => rfl
theorem fl_le (v : Rat) : (v.floor : Rat) ≤ v := Rat.floor_le v
theorem fl_lt (v : Rat) : v < v.floor + 1 := by
  have := Rat.lt_floor_add_one v
  rw [Rat.intCast_add] at this
  exact this
theorem fl_eq {v : Rat} {k : Int} (h1 : (k : Rat) ≤ v) (h2 : v < k + 1) : v.floor = k := by
  have a := Rat.le_floor_iff.mpr h1
  have b : v.floor < k + 1 := Rat.floor_lt_iff.mpr (by rw [Rat.intCast_add]; exact h2)
  omega
theorem fl_num (v : Rat) : v.num / (v.den : Int) = v.floor := (Rat.floor_def v).symm
theorem sub_fl (v : Rat) : (v - v.floor).num = v.num % v.den ∧ (v - v.floor).den = v.den := by
  have d0 : (v.den : Int) ≠ 0 := by have := v.den_nz; omega
  have e : v - (v.floor : Rat) = Rat.divInt (v.num % v.den) v.den := by
    have h1 : v = Rat.divInt v.num v.den := (Rat.num_divInt_den v).symm
    have h2 : (v.floor : Rat) = Rat.divInt v.floor 1 := by rw [Rat.divInt_eq_div]; grind
    rw [h2]
    conv => lhs; lhs; rw [h1]
    rw [Rat.divInt_sub_divInt _ _ d0 (by decide), Int.mul_one, Int.mul_one, Int.emod_def, fl_num, Int.mul_comm v.floor]
  have g : Int.gcd v.den (v.num % v.den) = 1 := by
    have h := v.reduced
    rw [Int.emod_def, show v.num - (v.den : Int) * (v.num / v.den) = v.num + v.den * (-(v.num / v.den)) by rw [Int.mul_neg, Int.sub_eq_add_neg], Int.gcd_add_mul_left_right]
    rw [Int.gcd_comm]
    exact h
  rw [e, Rat.num_divInt, Rat.den_divInt, if_neg d0, g]
  refine ⟨?_, by simp⟩
  have : (v.den : Int).sign = 1 := Int.sign_eq_one_of_pos (by omega)
  rw [this]; simp
theorem nx_num {v : Rat} (h : v - v.floor ≠ 0) : (1 / (v - v.floor)).num = v.den ∧ ((1 / (v - v.floor)).den : Int) = v.num % v.den := by
  obtain ⟨a, b⟩ := sub_fl v
  have d0 : (v.den : Int) ≠ 0 := by have := v.den_nz; omega
  have c : 0 < v.num % v.den := by
    have := Int.emod_nonneg v.num d0
    have : (v - v.floor).num ≠ 0 := fun z => h (Rat.num_eq_zero.mp z)
    omega
  rw [show 1 / (v - (v.floor : Rat)) = (v - (v.floor : Rat))⁻¹ by rw [Rat.div_def, Rat.one_mul], Rat.num_inv, Rat.den_inv, a, b, Int.sign_eq_one_of_pos c, if_neg (by omega)]
  exact ⟨by simp, by omega⟩
theorem done_mono : ∀ {n m : Nat} {v : Rat}, Done v n → n ≤ m → Done v m
  | 0, _, _, h, _ => absurd h (by simp [Done])
  | n + 1, 0, _, _, h => absurd h (by omega)
  | n + 1, m + 1, v, h, hm => by
    rcases h with h | h
    · exact .inl h
    · exact .inr (done_mono h (by omega))
theorem cf_take : ∀ {n : Nat} (t : Nat) {v : Rat}, Done v n → (cfR n v).take t = cfR t v
  | 0, _, _, h => absurd h (by simp [Done])
  | n + 1, 0, v, h => by simp [cfR]
  | n + 1, t + 1, v, h => by
    simp only [cfR, List.take_succ_cons]
    by_cases h0 : v - v.floor = 0
    · simp [h0]
    · rw [if_neg h0, if_neg h0]
      rcases h with h | h
      · exact absurd h h0
      · rw [cf_take t h]
theorem cf_take2 : ∀ (n t : Nat) (v : Rat), t ≤ n → (cfR n v).take t = cfR t v
  | n, 0, v, _ => by simp [cfR]
  | 0, t + 1, v, h => absurd h (by omega)
  | n + 1, t + 1, v, h => by
    simp only [cfR, List.take_succ_cons]
    split
    · simp
    · rw [cf_take2 n t _ (by omega)]
theorem cf_done : ∀ {n m : Nat} {v : Rat}, Done v n → n ≤ m → cfR m v = cfR n v := fun {n m v} h hm => by
  have e := cf_take2 m n v hm
  have e2 := cf_take m (done_mono h hm)
  have e3 := cf_take m h
  rw [← e3]
  apply List.take_of_length_le
  have : ∀ n v, (cfR n v).length ≤ n := by
    intro n
    induction n with
    | zero => intro v; simp [cfR]
    | succ n ih =>
      intro v
      simp only [cfR, List.length_cons]
      split
      · simp
      · have := ih (1 / (v - v.floor)); omega
  exact Nat.le_trans (this n v) hm
theorem cf_len : ∀ (n : Nat) (v : Rat), (cfR n v).length ≤ n
  | 0, v => by simp [cfR]
  | n + 1, v => by
    simp only [cfR, List.length_cons]
    split
    · simp
    · have := cf_len n (1 / (v - v.floor)); omega
theorem cf_ne {n : Nat} {v : Rat} (h : Done v n) : cfR n v ≠ [] := by
  cases n with
  | zero => exact absurd h (by simp [Done])
  | succ n => simp [cfR]
/-- turned back -/
theorem cf_val : ∀ {n : Nat} {v : Rat}, Done v n → cfv (cfR n v) = v
  | 0, _, h => absurd h (by simp [Done])
  | n + 1, v, h => by
    by_cases h0 : v - v.floor = 0
    · simp only [cfR, h0, if_true, cfv]
      grind
    · rcases h with h | h
      · exact absurd h h0
      · simp only [cfR, h0, if_false]
        rw [cfv_cons (cf_ne h), cf_val h]
        grind
/-- it ends soon -/
theorem cf_ends : ∀ (n : Nat) (v : Rat), v.den ≤ 2 ^ n → Done v (2 * n + 1) := by
  intro n
  induction n with
  | zero =>
    intro v h
    refine .inl ?_
    obtain ⟨a, b⟩ := sub_fl v
    have : v.den = 1 := by have := v.den_nz; simp at h; omega
    apply Rat.num_eq_zero.mp
    rw [a, this]; simp
  | succ n ih =>
    intro v h
    have e : 2 * (n + 1) + 1 = (2 * n + 1) + 1 + 1 := by omega
    rw [e]
    by_cases h0 : v - v.floor = 0
    · exact .inl h0
    · refine .inr ?_
      obtain ⟨a, b⟩ := nx_num h0
      generalize 1 / (v - (v.floor : Rat)) = w at *
      by_cases h1 : w - w.floor = 0
      · exact .inl h1
      · refine .inr (ih _ ?_)
        obtain ⟨c, d⟩ := nx_num h1
        have d0 : (0 : Int) < v.den := by have := v.den_nz; omega
        have w0 : (0 : Int) < w.den := by have := w.den_nz; omega
        have l1 := Int.emod_lt_of_pos v.num d0
        have l2 := Int.emod_lt_of_pos w.num w0
        have l3 := Int.mul_ediv_add_emod w.num w.den
        have l4 : 1 ≤ w.num / w.den := by
          rw [Int.le_ediv_iff_mul_le w0]
          omega
        have l5 : (w.den : Int) * 1 ≤ w.den * (w.num / w.den) := Int.mul_le_mul_of_nonneg_left l4 (by omega)
        have p : 2 ^ (n + 1) = 2 * 2 ^ n := by rw [Nat.pow_succ, Nat.mul_comm]
        rw [p] at h
        omega
/-- one whole part is read -/
theorem cf_step {n : Nat} {v w : Rat} {k : Int} (h1 : v = k + w) (h2 : 0 < w) (h3 : w < 1) : cfR (n + 1) v = k :: cfR n (1 / w) := by
  have e : v.floor = k := fl_eq (by grind) (by grind)
  have e2 : v - (k : Rat) = w := by grind
  simp only [cfR, e, e2]
  rw [if_neg (by grind)]
end Dat

/-! CF2 -/
set_option linter.all false
set_option maxRecDepth 100000
/-! CF2: turns of rows. -/
namespace Dat
theorem div_pos' {a b : Rat} (ha : 0 < a) (hb : 0 < b) : 0 < a / b := by
  rw [Rat.div_def]
  exact Rat.mul_pos ha (Rat.inv_pos.mpr hb)
theorem ipos {a : Int} (h : 0 < a) : (0 : Rat) < a := by
  have := Rat.intCast_lt_intCast.mpr h
  simpa using this
theorem inn {a : Int} (h : 0 ≤ a) : (0 : Rat) ≤ a := by
  have := Rat.intCast_le_intCast.mpr h
  simpa using this
theorem lin_pos {r s : Int} {x : Rat} (hr : 0 ≤ r) (hs : 0 ≤ s) (h : r ≠ 0 ∨ s ≠ 0) (hx : 0 < x) : (0 : Rat) < r * x + s := by
  have s0 := inn hs
  by_cases h1 : r = 0
  · have : 0 < s := by omega
    have := ipos this
    subst h1
    grind
  · have : 0 < r := by omega
    have := Rat.mul_pos (ipos this) hx
    grind
/-- one told -/
theorem told_step {n : Nat} {a b c d k : Int} {x : Rat} (hc : 0 < c) (hd : 0 < d) (hx : 0 < x) (h : a * d - b * c ≠ 0) (k1 : a / c = k) (k2 : b / d = k) :
    0 ≤ a - k * c ∧ a - k * c < c ∧ 0 ≤ b - k * d ∧ b - k * d < d ∧ c * (b - k * d) - d * (a - k * c) ≠ 0 ∧ cfR (n + 1) ((a * x + b) / (c * x + d)) = k :: cfR n ((c * x + d) / (((a - k * c : Int) : Rat) * x + ((b - k * d : Int) : Rat))) := by
  have a1 := Int.mul_ediv_add_emod a c
  have a2 := Int.emod_nonneg a (by omega : c ≠ 0)
  have a3 := Int.emod_lt_of_pos a hc
  have b1 := Int.mul_ediv_add_emod b d
  have b2 := Int.emod_nonneg b (by omega : d ≠ 0)
  have b3 := Int.emod_lt_of_pos b hd
  rw [k1] at a1
  rw [k2] at b1
  generalize a % c = r at *
  generalize b % d = s at *
  have er : a - k * c = r := by rw [Int.mul_comm k c]; omega
  have es : b - k * d = s := by rw [Int.mul_comm k d]; omega
  rw [er, es]
  have det : c * s - d * r ≠ 0 := by
    intro z
    apply h
    have : a * d - b * c = (c * k + r) * d - (d * k + s) * c := by rw [a1, b1]
    rw [this]
    grind
  refine ⟨a2, a3, b2, b3, det, ?_⟩
  have nz : r ≠ 0 ∨ s ≠ 0 := by
    by_cases h1 : r = 0
    · right
      intro h2
      apply det
      rw [h1, h2]; simp
    · exact .inl h1
  have w1 := lin_pos a2 b2 nz hx
  have w2 := lin_pos (r := c) (s := d) (by omega) (by omega) (.inl (by omega)) hx
  have w3 : (r : Rat) * x + s < c * x + d := by
    have := lin_pos (r := c - r) (s := d - s) (by omega) (by omega) (.inl (by omega)) hx
    rw [Rat.intCast_sub, Rat.intCast_sub] at this
    grind
  have ea : (a : Rat) = c * k + r := by rw [← a1, Rat.intCast_add, Rat.intCast_mul]
  have eb : (b : Rat) = d * k + s := by rw [← b1, Rat.intCast_add, Rat.intCast_mul]
  rw [cf_step (k := k) (w := (r * x + s) / (c * x + d))]
  · congr 2
    grind
  · rw [ea, eb]
    grind
  · exact div_pos' w1 w2
  · rw [Rat.div_lt_iff w2]
    grind
/-- a row of whole parts, as the law rolls it -/
def PosRow : List Int → Prop
  | [] => False
  | [k] => 1 ≤ k ∧ k ≤ 5
  | k :: l => 0 ≤ k ∧ k ≤ 5 ∧ PosRow l
theorem PosRow.tl {k : Int} {l : List Int} (h : PosRow (k :: l)) (hl : l ≠ []) : 0 ≤ k ∧ k ≤ 5 ∧ PosRow l := by
  cases l with
  | nil => exact absurd rfl hl
  | cons a l => exact h
theorem PosRow.mk {k : Int} {l : List Int} (h1 : 0 ≤ k) (h2 : k ≤ 5) (h3 : PosRow l) : PosRow (k :: l) := by
  cases l with
  | nil => exact absurd h3 (by simp [PosRow])
  | cons a l => exact ⟨h1, h2, h3⟩
theorem PosRow.hd {k : Int} {l : List Int} (h : PosRow (k :: l)) : 0 ≤ k ∧ k ≤ 5 := by
  cases l with
  | nil => exact ⟨by have := h.1; omega, h.2⟩
  | cons a l => exact ⟨h.1, h.2.1⟩
theorem pos_row : ∀ {l : List Int}, PosRow l → ∃ p q : Int, 0 < p ∧ 0 < q ∧ cfv l = Rat.divInt p q ∧ p ≤ 6 ^ l.length ∧ q ≤ 6 ^ (l.length - 1)
  | [], h => absurd h (by simp [PosRow])
  | [k], h => ⟨k, 1, by have := h.1; omega, by decide, by rw [Rat.divInt_eq_div]; simp only [cfv]; grind, by have := h.2; simp; omega, by simp⟩
  | k :: a :: l, h => by
    obtain ⟨h1, h2, h3⟩ := h
    obtain ⟨p, q, e1, e2, e3, e4, e5⟩ := pos_row h3
    have k0 : 0 ≤ k * p := Int.mul_nonneg h1 (by omega)
    have k5 : k * p ≤ 5 * p := Int.mul_le_mul_of_nonneg_right h2 (by omega)
    refine ⟨k * p + q, p, by omega, e1, ?_, ?_, by simpa using e4⟩
    · rw [cfv_cons (by simp), e3, Rat.divInt_eq_div, Rat.divInt_eq_div, Rat.intCast_add, Rat.intCast_mul]
      have := ipos e1
      have := ipos e2
      grind
    · simp only [List.length_cons, Nat.add_sub_cancel] at e4 e5 ⊢
      have s1 : (6 : Int) ^ (l.length + 1 + 1) = 6 * 6 ^ (l.length + 1) := by rw [Int.pow_succ, Int.mul_comm]
      have s2 : (6 : Int) ^ (l.length + 1) = 6 * 6 ^ l.length := by rw [Int.pow_succ, Int.mul_comm]
      have s3 : (0 : Int) < 6 ^ l.length := Int.pow_pos (by decide)
      rw [s1]
      omega
theorem pos_val {l : List Int} (h : PosRow l) : 0 < cfv l := by
  obtain ⟨p, q, e1, e2, e3, _⟩ := pos_row h
  rw [e3, Rat.divInt_eq_div]
  exact div_pos' (ipos e1) (ipos e2)
theorem gcd_le_l {a b : Int} (h : a ≠ 0) : Int.gcd a b ≠ 0 := fun z => h (Int.gcd_eq_zero_iff.mp z).1
theorem divInt_small {p q : Int} (hq : q ≠ 0) : (Rat.divInt p q).num.natAbs ≤ p.natAbs ∧ (Rat.divInt p q).den ≤ q.natAbs := by
  rw [Rat.num_divInt, Rat.den_divInt, if_neg hq]
  refine ⟨?_, Nat.div_le_self _ _⟩
  have e : (q.sign * p).natAbs = p.natAbs := by
    rw [Int.natAbs_mul, Int.natAbs_sign_of_ne_zero hq, Nat.one_mul]
  have := Int.natAbs_ediv_le_natAbs (q.sign * p) (q.gcd p)
  omega
/-- so many bits above and below -/
def Hb (n : Nat) (q : Rat) : Prop := q.num.natAbs < 2 ^ n ∧ q.den < 2 ^ n
theorem hb_div {n : Nat} {p q : Int} (hq : q ≠ 0) (h1 : p.natAbs < 2 ^ n) (h2 : q.natAbs < 2 ^ n) : Hb n (Rat.divInt p q) := by
  obtain ⟨a, b⟩ := divInt_small (p := p) hq
  exact ⟨by omega, by omega⟩
theorem hb_int {n : Nat} {k : Int} (h : k.natAbs < 2 ^ n) (hn : 1 ≤ n) : Hb n (k : Rat) := by
  refine ⟨by rw [Rat.num_intCast]; exact h, ?_⟩
  rw [Rat.den_intCast]
  exact Nat.one_lt_two_pow (by omega)
theorem Hb.le {n m : Nat} {q : Rat} (h : Hb n q) (hm : n ≤ m) : Hb m q :=
  ⟨Nat.lt_of_lt_of_le h.1 (Nat.pow_le_pow_right (by decide) hm), Nat.lt_of_lt_of_le h.2 (Nat.pow_le_pow_right (by decide) hm)⟩
theorem Hb.mul {n m : Nat} {p q : Rat} (hp : Hb n p) (hq : Hb m q) : Hb (n + m) (p * q) := by
  have e : p * q = Rat.divInt (p.num * q.num) ((p.den : Int) * q.den) := by
    rw [← Rat.divInt_mul_divInt, Rat.num_divInt_den, Rat.num_divInt_den]
  have d : (p.den : Int) * q.den ≠ 0 := Int.mul_ne_zero (by have := p.den_nz; omega) (by have := q.den_nz; omega)
  rw [e]
  refine hb_div d ?_ ?_
  · rw [Int.natAbs_mul, Nat.pow_add]
    exact Nat.mul_lt_mul'' hp.1 hq.1
  · rw [Int.natAbs_mul, Nat.pow_add]
    exact Nat.mul_lt_mul'' hp.2 hq.2
theorem Hb.add {n m : Nat} {p q : Rat} (hp : Hb n p) (hq : Hb m q) : Hb (n + m + 1) (p + q) := by
  have d1 : (p.den : Int) ≠ 0 := by have := p.den_nz; omega
  have d2 : (q.den : Int) ≠ 0 := by have := q.den_nz; omega
  have e : p + q = Rat.divInt (p.num * q.den + q.num * p.den) ((p.den : Int) * q.den) := by
    rw [← Rat.divInt_add_divInt _ _ d1 d2, Rat.num_divInt_den, Rat.num_divInt_den]
  rw [e]
  have t1 : p.num.natAbs * q.den < 2 ^ n * 2 ^ m := Nat.mul_lt_mul'' hp.1 hq.2
  have t2 : q.num.natAbs * p.den < 2 ^ m * 2 ^ n := Nat.mul_lt_mul'' hq.1 hp.2
  have t3 : p.den * q.den < 2 ^ n * 2 ^ m := Nat.mul_lt_mul'' hp.2 hq.2
  have c : 2 ^ m * 2 ^ n = 2 ^ n * 2 ^ m := Nat.mul_comm _ _
  have s : 2 ^ (n + m + 1) = 2 * (2 ^ n * 2 ^ m) := by rw [Nat.pow_succ, Nat.pow_add]; omega
  refine hb_div (Int.mul_ne_zero d1 d2) ?_ ?_
  · have := Int.natAbs_add_le (p.num * q.den) (q.num * p.den)
    rw [Int.natAbs_mul, Int.natAbs_mul, Int.natAbs_natCast, Int.natAbs_natCast] at this
    omega
  · rw [Int.natAbs_mul, Int.natAbs_natCast, Int.natAbs_natCast]
    omega
theorem Hb.inv {n : Nat} {q : Rat} (h : Hb n q) (h0 : q ≠ 0) : Hb n (1 / q) := by
  have e : 1 / q = Rat.divInt q.den q.num := by
    conv => lhs; rw [← Rat.num_divInt_den q]
    rw [Rat.div_def, Rat.one_mul, Rat.inv_divInt]
  have n0 : q.num ≠ 0 := fun z => h0 (Rat.num_eq_zero.mp z)
  rw [e]
  exact hb_div n0 (by rw [Int.natAbs_natCast]; exact h.2) h.1
theorem Hb.div {n m : Nat} {p q : Rat} (hp : Hb n p) (hq : Hb m q) (h0 : q ≠ 0) : Hb (n + m) (p / q) := by
  have e : p / q = p * (1 / q) := by rw [Rat.div_def, Rat.div_def, Rat.one_mul]
  rw [e]
  exact hp.mul (hq.inv h0)
/-- what of_row needs -/
def GoodRow (n : Nat) : List Int → Prop
  | [] => False
  | [k] => Hb n (k : Rat)
  | k :: l => GoodRow n l ∧ Hb n (k : Rat) ∧ cfv l ≠ 0 ∧ Hb n (cfv l)
theorem GoodRow.cons {n : Nat} {k : Int} {l : List Int} (hl : l ≠ []) (h : GoodRow n l ∧ Hb n (k : Rat) ∧ cfv l ≠ 0 ∧ Hb n (cfv l)) : GoodRow n (k :: l) := by
  cases l with
  | nil => exact absurd rfl hl
  | cons a l => exact h
theorem good_cf {n : Nat} (hn : 1 ≤ n) : ∀ {t : Nat} {v : Rat}, Done v t → Hb n v → GoodRow n (cfR t v)
  | 0, _, h, _ => absurd h (by simp [Done])
  | t + 1, v, h, hv => by
    have hf : Hb n (v.floor : Rat) := hb_int (Nat.lt_of_le_of_lt (by rw [Rat.floor_def]; exact Int.natAbs_ediv_le_natAbs _ _) hv.1) hn
    by_cases h0 : v - v.floor = 0
    · simp only [cfR, h0, if_true, GoodRow]
      exact hf
    · rcases h with h | h
      · exact absurd h h0
      · obtain ⟨a, b⟩ := nx_num h0
        have d0 : (0 : Int) < v.den := by have := v.den_nz; omega
        have l1 := Int.emod_lt_of_pos v.num d0
        have hb : Hb n (1 / (v - v.floor)) := ⟨by rw [a, Int.natAbs_natCast]; exact hv.2, by have := hv.2; omega⟩
        simp only [cfR, h0, if_false]
        refine GoodRow.cons (cf_ne h) ⟨good_cf hn h hb, hf, ?_, ?_⟩
        · rw [cf_val h]
          intro z
          rw [z] at a
          simp at a
          omega
        · rw [cf_val h]
          exact hb
theorem good_row {n : Nat} : ∀ {l : List Int}, PosRow l → l.length + 1 ≤ n → GoodRow (3 * n) l
  | [], h, _ => absurd h (by simp [PosRow])
  | [k], h, hl => hb_int (Nat.lt_of_lt_of_le (show k.natAbs < 2 ^ 3 by have := h.1; have := h.2; omega) (Nat.pow_le_pow_right (by decide) (by omega))) (by omega)
  | k :: a :: l, h, hl => by
    obtain ⟨h1, h2, h3⟩ := h
    obtain ⟨p, q, e1, e2, e3, e4, e5⟩ := pos_row h3
    have pv := pos_val h3
    have six : ∀ j, j ≤ n → (6 : Int) ^ j < 2 ^ (3 * n) + 1 := fun j hj => by
      have : (6 : Int) ^ j ≤ 8 ^ j := by
        have := Nat.pow_le_pow_left (show 6 ≤ 8 by decide) j
        exact_mod_cast this
      have h8 : (8 : Int) ^ j ≤ 8 ^ n := by
        have := Nat.pow_le_pow_right (show 0 < 8 by decide) hj
        exact_mod_cast this
      have : (8 : Int) ^ n = 2 ^ (3 * n) := by rw [Int.pow_mul]; rfl
      omega
    refine ⟨good_row h3 (by simp at hl ⊢; omega), hb_int (Nat.lt_of_lt_of_le (show k.natAbs < 2 ^ 3 by omega) (Nat.pow_le_pow_right (by decide) (by omega))) (by omega), by grind, ?_⟩
    rw [e3]
    have big : ∀ j : Nat, j + 1 ≤ n → (6 : Int) ^ j < 2 ^ (3 * n) := fun j hj => by
      have a := six (j + 1) hj
      have b : (6 : Int) ^ (j + 1) = 6 * 6 ^ j := by rw [Int.pow_succ, Int.mul_comm]
      have c : (0 : Int) < 6 ^ j := Int.pow_pos (by decide)
      omega
    have c2 : ((2 ^ (3 * n) : Nat) : Int) = 2 ^ (3 * n) := by simp
    refine hb_div (by omega) ?_ ?_
    · have := big (a :: l).length (by simp at hl ⊢; omega)
      omega
    · have := big ((a :: l).length - 1) (by simp at hl ⊢; omega)
      omega
end Dat

/-! Dat26 -/
set_option linter.all false
set_option maxRecDepth 100000
set_option maxHeartbeats 4000000
set_option exponentiation.threshold 10000
/-! Dat26: parts with many digits, how many bits they may have; loops. -/
namespace Dat
open PySem L2
section
variable {P : Prog} {iS iM : Nat} {n : Nat} {m : Mem}
theorem shared_any (hsh : P.fns[iS]? = some ⟨2, 2, irShared⟩) (htn : P.turns = 2 ^ 4096) {a b : Int} {N : Nat} (h0 : 0 ≤ b) (hb : b.natAbs < 2 ^ N) (hN : N ≤ 9000) : runF P (n + 1) iS [.int a, .int b] m = .ok (.int (Int.gcd a b)) m := by
  rw [runF_at hsh rfl]
  have loop : ∀ (C : Ctl) (N : Nat) (a b : Int), 0 ≤ b → b.natAbs < 2 ^ N → ∃ (a' : Int) (k : Nat), k ≤ 2 * N + 1 ∧ (a'.natAbs : Int) = Int.gcd a b ∧ whileN (fun e m1 => evalE (.cmp .NotEq (.var 1) (.con (.int 0))) C e m1) (fun e m1 => evalB C [(.asg (.tup [(.var 0), (.var 1)]) (.tup [(.var 1), (.bin .Mod (.var 0) (.var 1))]))] e m1) k [some (.int a), some (.int b)] m = .nx [some (.int a'), some (.int 0)] m := by
    intro C N
    have zero : ∀ a : Int, ∃ (a' : Int), (a'.natAbs : Int) = Int.gcd a 0 ∧ whileN (fun e m1 => evalE (.cmp .NotEq (.var 1) (.con (.int 0))) C e m1) (fun e m1 => evalB C [(.asg (.tup [(.var 0), (.var 1)]) (.tup [(.var 1), (.bin .Mod (.var 0) (.var 1))]))] e m1) 1 [some (.int a), some (.int 0)] m = .nx [some (.int a'), some (.int 0)] m := fun a => by
      refine ⟨a, by simp, ?_⟩
      rw [while_succ]
      simp only [fin_rt, fin_nx, fin_exn, seq_nx, seq_rt, seq_exn, seq_bk, seq_ct, bind_ok, bind_exn, out_ok, out_exn, tst_ok, tst_exn, gc_ok_, gc_exn, gcM_same, asB_bl, selB_t, selB_f, selE_t, selE_f, rdV_some, stT_some, e_var, e_con, e_glo, e_nop, t_bin, t_neg, t_not, t_cmp, t_cmp2, cmp2T_t, cmp2T_f, t_and, t_or, t_if, t_idx, t_tup, t_lst, t_call, t_blt, t_mth, mthT_t, es_nil, ts_cons, b_nil, tb_cons, ts_asg, ts_expr, ts_if, ts_ret, s_rais, seqT_nx, seqT_rt, seqT_exn, seqT_bk, seqT_ct, bindT_ok, bindT_exn, outT_ok, outT_exn, tstT_ok, tstT_exn, asBT_bl, c_eqI, c_neI, c_ltI, c_leI, c_gtI, c_geI, o_addI, o_subI, n_I, abs_N, ix_tup, lift_some, at0, at1, at2, at3, asT_var, asT_tup, asTs_nil, asTs_cons, ctl_call, List.getElem?_cons_zero, List.getElem?_cons_succ, List.set_cons_zero, List.set_cons_succ, List.length_cons, List.length_nil, List.map_cons, List.map_nil, List.cons_append, List.nil_append, List.replicate_succ, List.replicate_zero, Nat.reduceAdd, Nat.reduceSub, Nat.reduceLT, Nat.reduceLeDiff, sz, Option.bind_some, Option.bind_none, Option.map_some, Bool.false_eq_true, if_true, if_false, reduceIte, Nat.zero_add, startE, Bool.not_true, Bool.not_false, decide_true, decide_false]
    have step : ∀ (k : Nat) (a b : Int) (o : Out), b ≠ 0 → whileN (fun e m1 => evalE (.cmp .NotEq (.var 1) (.con (.int 0))) C e m1) (fun e m1 => evalB C [(.asg (.tup [(.var 0), (.var 1)]) (.tup [(.var 1), (.bin .Mod (.var 0) (.var 1))]))] e m1) k [some (.int b), some (.int (a.fmod b))] m = o →
        whileN (fun e m1 => evalE (.cmp .NotEq (.var 1) (.con (.int 0))) C e m1) (fun e m1 => evalB C [(.asg (.tup [(.var 0), (.var 1)]) (.tup [(.var 1), (.bin .Mod (.var 0) (.var 1))]))] e m1) (k + 1) [some (.int a), some (.int b)] m = o := fun k a b o h0 h => by
      rw [while_succ, ← h]
      simp only [fin_rt, fin_nx, fin_exn, seq_nx, seq_rt, seq_exn, seq_bk, seq_ct, bind_ok, bind_exn, out_ok, out_exn, tst_ok, tst_exn, gc_ok_, gc_exn, gcM_same, asB_bl, selB_t, selB_f, selE_t, selE_f, rdV_some, stT_some, e_var, e_con, e_glo, e_nop, t_bin, t_neg, t_not, t_cmp, t_cmp2, cmp2T_t, cmp2T_f, t_and, t_or, t_if, t_idx, t_tup, t_lst, t_call, t_blt, t_mth, mthT_t, es_nil, ts_cons, b_nil, tb_cons, ts_asg, ts_expr, ts_if, ts_ret, s_rais, seqT_nx, seqT_rt, seqT_exn, seqT_bk, seqT_ct, bindT_ok, bindT_exn, outT_ok, outT_exn, tstT_ok, tstT_exn, asBT_bl, c_eqI, c_neI, c_ltI, c_leI, c_gtI, c_geI, o_addI, o_subI, n_I, abs_N, ix_tup, lift_some, at0, at1, at2, at3, asT_var, asT_tup, asTs_nil, asTs_cons, ctl_call, List.getElem?_cons_zero, List.getElem?_cons_succ, List.set_cons_zero, List.set_cons_succ, List.length_cons, List.length_nil, List.map_cons, List.map_nil, List.cons_append, List.nil_append, List.replicate_succ, List.replicate_zero, Nat.reduceAdd, Nat.reduceSub, Nat.reduceLT, Nat.reduceLeDiff, sz, Option.bind_some, Option.bind_none, Option.map_some, Bool.false_eq_true, if_true, if_false, reduceIte, Nat.zero_add, startE, Bool.not_true, Bool.not_false, decide_true, decide_false, h0, o_modI h0]
    induction N with
    | zero =>
      intro a b h0 h
      have : b = 0 := by simp at h; omega
      subst this
      obtain ⟨a', e1, e2⟩ := zero a
      exact ⟨a', 1, by omega, e1, e2⟩
    | succ N ih =>
      intro a b h0 h
      by_cases hb : b = 0
      · subst hb
        obtain ⟨a', e1, e2⟩ := zero a
        exact ⟨a', 1, by omega, e1, e2⟩
      · have l1 := Int.fmod_nonneg_of_pos a (show 0 < b by omega)
        have l2 := Int.fmod_lt_of_pos a (show 0 < b by omega)
        have g1 := gcd_step a b
        generalize hr : a.fmod b = r at *
        by_cases hr0 : r = 0
        · subst hr0
          obtain ⟨a', e1, e2⟩ := zero b
          refine ⟨a', 2, by omega, by rw [e1, g1], step 1 a b _ hb (by rw [hr]; exact e2)⟩
        · have l3 := Int.fmod_nonneg_of_pos b (show 0 < r by omega)
          have l4 := Int.fmod_lt_of_pos b (show 0 < r by omega)
          have g2 := gcd_step b r
          have l5 : b.fmod r + r ≤ b := by
            rw [Int.fmod_eq_emod_of_nonneg _ (by omega)]
            have e := Int.mul_ediv_add_emod b r
            have q1 : 1 ≤ b / r := by
              rw [Int.le_ediv_iff_mul_le (by omega)]
              omega
            have := Int.mul_le_mul_of_nonneg_left q1 (show 0 ≤ r by omega)
            omega
          have p : 2 ^ (N + 1) = 2 * 2 ^ N := by rw [Nat.pow_succ, Nat.mul_comm]
          generalize hs : b.fmod r = s at *
          obtain ⟨a', k, hk, e1, e2⟩ := ih r s l3 (by omega)
          refine ⟨a', k + 1 + 1, by omega, by rw [e1, g2, g1], step (k + 1) a b _ hb ?_⟩
          rw [hr]
          exact step k b r _ hr0 (by rw [hs]; exact e2)
  obtain ⟨a', k, hk, e1, e2⟩ := loop (P.ctl (runF P n) (runF P (n - 2)) n) N a b h0 hb
  have e3 : evalS (P.ctl (runF P n) (runF P (n - 2)) n) (.whl (.cmp .NotEq (.var 1) (.con (.int 0))) [(.asg (.tup [(.var 0), (.var 1)]) (.tup [(.var 1), (.bin .Mod (.var 0) (.var 1))]))]) [some (.int a), some (.int b)] m = .nx [some (.int a'), some (.int 0)] m := by
    rw [s_whl]
    have e4 : (P.ctl (runF P n) (runF P (n - 2)) n).turns = 2 ^ 4096 := htn
    rw [e4]
    refine while_of e2 (by simp) (Nat.le_trans hk (Nat.le_trans (show 2 * N + 1 ≤ 2 ^ 15 by omega) (Nat.pow_le_pow_right (by decide) (by decide))))
  simp only [fin_rt, fin_nx, fin_exn, seq_nx, seq_rt, seq_exn, seq_bk, seq_ct, bind_ok, bind_exn, out_ok, out_exn, tst_ok, tst_exn, gc_ok_, gc_exn, gcM_same, asB_bl, selB_t, selB_f, selE_t, selE_f, rdV_some, stT_some, e_var, e_con, e_glo, e_nop, t_bin, t_neg, t_not, t_cmp, t_cmp2, cmp2T_t, cmp2T_f, t_and, t_or, t_if, t_idx, t_tup, t_lst, t_call, t_blt, t_mth, mthT_t, es_nil, ts_cons, b_nil, tb_cons, ts_asg, ts_expr, ts_if, ts_ret, s_rais, seqT_nx, seqT_rt, seqT_exn, seqT_bk, seqT_ct, bindT_ok, bindT_exn, outT_ok, outT_exn, tstT_ok, tstT_exn, asBT_bl, c_eqI, c_neI, c_ltI, c_leI, c_gtI, c_geI, o_addI, o_subI, n_I, abs_N, ix_tup, lift_some, at0, at1, at2, at3, asT_var, asT_tup, asTs_nil, asTs_cons, ctl_call, List.getElem?_cons_zero, List.getElem?_cons_succ, List.set_cons_zero, List.set_cons_succ, List.length_cons, List.length_nil, List.map_cons, List.map_nil, List.cons_append, List.nil_append, List.replicate_succ, List.replicate_zero, Nat.reduceAdd, Nat.reduceSub, Nat.reduceLT, Nat.reduceLeDiff, sz, Option.bind_some, Option.bind_none, Option.map_some, Bool.false_eq_true, if_true, if_false, reduceIte, Nat.zero_add, startE, Bool.not_true, Bool.not_false, decide_true, decide_false, irShared, e3, e1]
theorem shared_big (hP : PartsOk P iS iM) {a b : Int} {N : Nat} (h0 : 0 ≤ b) (hb : b.natAbs < 2 ^ N) (hN : N ≤ 9000) : runF P (n + 1) iS [.int a, .int b] m = .ok (.int (Int.gcd a b)) m := shared_any hP.sh hP.tn h0 hb hN
theorem made_big (hP : PartsOk P iS iM) {t b : Int} {N : Nat} (hb : b ≠ 0) (h2 : b.natAbs < 2 ^ N) (hN : N ≤ 9000) : runF P (n + 2) iM [.int t, .int b] m = .ok (encQ (Rat.divInt t b)) m := by
  rw [runF_at hP.md rfl]
  have h3 : (-b).natAbs < 2 ^ N := by rwa [Int.natAbs_neg]
  have g0 : Int.gcd t b ≠ 0 := fun z => hb (Int.gcd_eq_zero_iff.mp z).2
  have gl : Int.gcd t b < 2 ^ N := Nat.lt_of_le_of_lt (Int.gcd_le_natAbs_right t hb) h2
  have gp : (0 : Int) ≤ (Int.gcd t b : Int) := Int.natCast_nonneg _
  have gD : ∀ x : Int, DivG x (Int.gcd t b : Int) := fun x => divG_of (by omega) (by
    rw [Int.natAbs_natCast]
    exact Nat.lt_of_lt_of_le gl (Nat.pow_le_pow_right (by decide) hN))
  have fin : ∀ s : Int, s = b.sign → (Res.ok (D.tup [.int ((s * t).fdiv (Int.gcd t b)), .int ((s * b).fdiv (Int.gcd t b))]) m : Res D) = .ok (encQ (Rat.divInt t b)) m := fun s hs => by
    unfold encQ
    rw [Rat.num_divInt, Rat.den_divInt, if_neg hb, Int.fdiv_eq_ediv_of_nonneg _ gp, Int.fdiv_eq_ediv_of_nonneg _ gp, hs, Int.gcd_comm b t]
    congr 5
    rw [Int.natCast_ediv, Int.sign_mul_self]
  by_cases h1 : b < 0
  · have e : b.sign = -1 := Int.sign_eq_neg_one_of_neg h1
    have gn : Int.gcd (-t) (-b) = Int.gcd t b := by rw [Int.neg_gcd, Int.gcd_neg]
    have f := fin (-1) e.symm
    rw [Int.neg_one_mul, Int.neg_one_mul] at f
    simp only [fin_rt, fin_nx, fin_exn, seq_nx, seq_rt, seq_exn, seq_bk, seq_ct, bind_ok, bind_exn, out_ok, out_exn, tst_ok, tst_exn, gc_ok_, gc_exn, gcM_same, asB_bl, selB_t, selB_f, selE_t, selE_f, rdV_some, stT_some, e_var, e_con, e_glo, e_nop, t_bin, t_neg, t_not, t_cmp, t_cmp2, cmp2T_t, cmp2T_f, t_and, t_or, t_if, t_idx, t_tup, t_lst, t_call, t_blt, t_mth, mthT_t, es_nil, ts_cons, b_nil, tb_cons, ts_asg, ts_expr, ts_if, ts_ret, s_rais, seqT_nx, seqT_rt, seqT_exn, seqT_bk, seqT_ct, bindT_ok, bindT_exn, outT_ok, outT_exn, tstT_ok, tstT_exn, asBT_bl, c_eqI, c_neI, c_ltI, c_leI, c_gtI, c_geI, o_addI, o_subI, n_I, abs_N, ix_tup, lift_some, at0, at1, at2, at3, asT_var, asT_tup, asTs_nil, asTs_cons, ctl_call, List.getElem?_cons_zero, List.getElem?_cons_succ, List.set_cons_zero, List.set_cons_succ, List.length_cons, List.length_nil, List.map_cons, List.map_nil, List.cons_append, List.nil_append, List.replicate_succ, List.replicate_zero, Nat.reduceAdd, Nat.reduceSub, Nat.reduceLT, Nat.reduceLeDiff, sz, Option.bind_some, Option.bind_none, Option.map_some, Bool.false_eq_true, if_true, if_false, reduceIte, Nat.zero_add, startE, Bool.not_true, Bool.not_false, decide_true, decide_false, irMade, hb, h1, shared_big hP (show 0 ≤ -b by omega) h3 hN, gn, o_divI (gD _)]
    exact f
  · have e : b.sign = 1 := Int.sign_eq_one_of_pos (by omega)
    have f := fin 1 e.symm
    rw [Int.one_mul, Int.one_mul] at f
    simp only [fin_rt, fin_nx, fin_exn, seq_nx, seq_rt, seq_exn, seq_bk, seq_ct, bind_ok, bind_exn, out_ok, out_exn, tst_ok, tst_exn, gc_ok_, gc_exn, gcM_same, asB_bl, selB_t, selB_f, selE_t, selE_f, rdV_some, stT_some, e_var, e_con, e_glo, e_nop, t_bin, t_neg, t_not, t_cmp, t_cmp2, cmp2T_t, cmp2T_f, t_and, t_or, t_if, t_idx, t_tup, t_lst, t_call, t_blt, t_mth, mthT_t, es_nil, ts_cons, b_nil, tb_cons, ts_asg, ts_expr, ts_if, ts_ret, s_rais, seqT_nx, seqT_rt, seqT_exn, seqT_bk, seqT_ct, bindT_ok, bindT_exn, outT_ok, outT_exn, tstT_ok, tstT_exn, asBT_bl, c_eqI, c_neI, c_ltI, c_leI, c_gtI, c_geI, o_addI, o_subI, n_I, abs_N, ix_tup, lift_some, at0, at1, at2, at3, asT_var, asT_tup, asTs_nil, asTs_cons, ctl_call, List.getElem?_cons_zero, List.getElem?_cons_succ, List.set_cons_zero, List.set_cons_succ, List.length_cons, List.length_nil, List.map_cons, List.map_nil, List.cons_append, List.nil_append, List.replicate_succ, List.replicate_zero, Nat.reduceAdd, Nat.reduceSub, Nat.reduceLT, Nat.reduceLeDiff, sz, Option.bind_some, Option.bind_none, Option.map_some, Bool.false_eq_true, if_true, if_false, reduceIte, Nat.zero_add, startE, Bool.not_true, Bool.not_false, decide_true, decide_false, irMade, hb, h1, shared_big hP (show 0 ≤ b by omega) h2 hN, o_divI (gD _)]
    exact f
end
/-! ### weights: how many bits above and below; none: nought -/
abbrev Wt := Option (Nat × Nat)
def HW (w : Wt) (q : Rat) : Prop := match w with
  | none => q = 0
  | some (a, b) => q.num.natAbs ≤ 2 ^ a ∧ q.den ≤ 2 ^ b
def wAdd (x y : Wt) : Wt := match x, y with
  | none, y => y
  | x, none => x
  | some (a, b), some (c, d) => some (max (a + d) (c + b) + 1, b + d)
def wMul (x y : Wt) : Wt := match x, y with
  | some (a, b), some (c, d) => some (a + c, b + d)
  | _, _ => none
def wDiv (x y : Wt) : Wt := match x, y with
  | some (a, b), some (c, d) => some (a + d, b + c)
  | _, _ => none
def wOk (x : Wt) : Bool := match x with
  | none => true
  | some (a, b) => decide (a ≤ 1000000) && decide (b ≤ 8990)
theorem HW.zero {w : Wt} : HW w 0 := by
  match w with
  | none => rfl
  | some (a, b) => exact ⟨by simp, Nat.one_le_two_pow⟩
theorem hw_div {a b : Nat} {p q : Int} (hq : q ≠ 0) (h1 : p.natAbs ≤ 2 ^ a) (h2 : q.natAbs ≤ 2 ^ b) : HW (some (a, b)) (Rat.divInt p q) := by
  obtain ⟨x, y⟩ := divInt_small (p := p) hq
  exact ⟨by omega, by omega⟩
theorem rat_num {q : Rat} : Rat.divInt q.num q.den = q := Rat.num_divInt_den q
theorem HW.add {x y : Wt} {p q : Rat} (hp : HW x p) (hq : HW y q) : HW (wAdd x y) (p + q) := by
  match x, y with
  | none, y => rw [show p = 0 from hp, Rat.zero_add]; exact hq
  | some (a, b), none => rw [show q = 0 from hq, Rat.add_zero]; exact hp
  | some (a, b), some (c, d) =>
    have e : p + q = Rat.divInt (p.num * q.den + q.num * p.den) ((p.den : Int) * q.den) := by
      rw [← Rat.divInt_add_divInt _ _ (den_ne p) (den_ne q), rat_num, rat_num]
    rw [e]
    have t1 : p.num.natAbs * q.den ≤ 2 ^ a * 2 ^ d := Nat.mul_le_mul hp.1 hq.2
    have t2 : q.num.natAbs * p.den ≤ 2 ^ c * 2 ^ b := Nat.mul_le_mul hq.1 hp.2
    have t3 : p.den * q.den ≤ 2 ^ b * 2 ^ d := Nat.mul_le_mul hp.2 hq.2
    rw [← Nat.pow_add] at t1 t2 t3
    have m1 : 2 ^ (a + d) ≤ 2 ^ (max (a + d) (c + b)) := Nat.pow_le_pow_right (by decide) (Nat.le_max_left _ _)
    have m2 : 2 ^ (c + b) ≤ 2 ^ (max (a + d) (c + b)) := Nat.pow_le_pow_right (by decide) (Nat.le_max_right _ _)
    refine hw_div (Int.mul_ne_zero (den_ne p) (den_ne q)) ?_ ?_
    · have := Int.natAbs_add_le (p.num * q.den) (q.num * p.den)
      rw [Int.natAbs_mul, Int.natAbs_mul, Int.natAbs_natCast, Int.natAbs_natCast] at this
      rw [Nat.pow_succ]
      omega
    · rw [Int.natAbs_mul, Int.natAbs_natCast, Int.natAbs_natCast]
      exact t3
theorem HW.neg {x : Wt} {p : Rat} (hp : HW x p) : HW x (-p) := by
  match x with
  | none => rw [show p = 0 from hp]; rfl
  | some (a, b) => exact ⟨by rw [Rat.neg_num, Int.natAbs_neg]; exact hp.1, by rw [Rat.neg_den]; exact hp.2⟩
theorem HW.sub {x y : Wt} {p q : Rat} (hp : HW x p) (hq : HW y q) : HW (wAdd x y) (p - q) := by
  rw [Rat.sub_eq_add_neg]
  exact hp.add hq.neg
theorem HW.mul {x y : Wt} {p q : Rat} (hp : HW x p) (hq : HW y q) : HW (wMul x y) (p * q) := by
  match x, y with
  | none, y => rw [show p = 0 from hp, Rat.zero_mul]; exact HW.zero
  | some (a, b), none => rw [show q = 0 from hq, Rat.mul_zero]; exact HW.zero
  | some (a, b), some (c, d) =>
    have e : p * q = Rat.divInt (p.num * q.num) ((p.den : Int) * q.den) := by
      rw [← Rat.divInt_mul_divInt, rat_num, rat_num]
    rw [e]
    refine hw_div (Int.mul_ne_zero (den_ne p) (den_ne q)) ?_ ?_
    · rw [Int.natAbs_mul, Nat.pow_add]
      exact Nat.mul_le_mul hp.1 hq.1
    · rw [Int.natAbs_mul, Int.natAbs_natCast, Int.natAbs_natCast, Nat.pow_add]
      exact Nat.mul_le_mul hp.2 hq.2
theorem div_eq {p q : Rat} : p / q = Rat.divInt (p.num * q.den) ((p.den : Int) * q.num) := by
  have h1 : p = Rat.divInt p.num p.den := rat_num.symm
  have h2 : q = Rat.divInt q.num q.den := rat_num.symm
  conv => lhs; rw [h1, h2]
  rw [Rat.div_def, Rat.inv_divInt, Rat.divInt_mul_divInt]
theorem HW.div {x y : Wt} {p q : Rat} (hp : HW x p) (hq : HW y q) (h0 : q ≠ 0) : HW (wDiv x y) (p / q) := by
  match x, y with
  | none, y => rw [show p = 0 from hp, Rat.div_def, Rat.zero_mul]; exact HW.zero
  | some (a, b), none => exact absurd hq h0
  | some (a, b), some (c, d) =>
    rw [div_eq]
    refine hw_div (Int.mul_ne_zero (den_ne p) (fun z => h0 (Rat.num_eq_zero.mp z))) ?_ ?_
    · rw [Int.natAbs_mul, Int.natAbs_natCast, Nat.pow_add]
      exact Nat.mul_le_mul hp.1 hq.2
    · rw [Int.natAbs_mul, Int.natAbs_natCast, Nat.pow_add]
      exact Nat.mul_le_mul hp.2 hq.1
theorem lt2 {a b : Nat} (h : a ≤ 2 ^ b) : a < 2 ^ (b + 1) := by
  rw [Nat.pow_succ]
  have := Nat.one_le_two_pow (n := b)
  omega
theorem mgN {a b : Int} {x y : Nat} (ha : a.natAbs ≤ 2 ^ x) (hb : b.natAbs ≤ 2 ^ y) (h : x + y ≤ 2000000) : MulG a b := mulG_of (lt2 ha) (lt2 hb) (by omega)
section
variable {P : Prog} {iS iM : Nat} {n : Nat} {m : Mem}
theorem num0 {q : Rat} (h : q = 0) : q.num = 0 := by rw [h]; rfl
/-- a weight in numbers -/
theorem HW.nums {w : Wt} {q : Rat} (h : HW w q) : ∃ a b, q.num.natAbs ≤ 2 ^ a ∧ q.den ≤ 2 ^ b ∧ (w = Option.some (a, b) ∨ (w = none ∧ a = 0 ∧ b = 0)) := by
  match w with
  | none => exact ⟨0, 0, by rw [show q = 0 from h]; decide, by rw [show q = 0 from h]; decide, .inr ⟨rfl, rfl, rfl⟩⟩
  | some (a, b) => exact ⟨a, b, h.1, h.2, .inl rfl⟩
theorem wOk_some {a b : Nat} (h : wOk (Option.some (a, b)) = true) : a ≤ 1000000 ∧ b ≤ 8990 := by
  simpa [wOk] using h
theorem sum_lim {x y : Wt} {a b c d : Nat} (hx : x = Option.some (a, b) ∨ (x = none ∧ a = 0 ∧ b = 0)) (hy : y = Option.some (c, d) ∨ (y = none ∧ c = 0 ∧ d = 0)) (h : wOk (wAdd x y) = true) (hx' : wOk x = true) (hy' : wOk y = true) : a + d ≤ 1100000 ∧ c + b ≤ 1100000 ∧ b + d ≤ 8990 ∧ b ≤ 8990 ∧ d ≤ 8990 := by
  rcases hx with rfl | ⟨rfl, rfl, rfl⟩
  · have := wOk_some hx'
    rcases hy with rfl | ⟨rfl, rfl, rfl⟩
    · have h2 := wOk_some hy'
      have h3 := wOk_some h
      omega
    · omega
  · rcases hy with rfl | ⟨rfl, rfl, rfl⟩
    · have := wOk_some hy'
      omega
    · omega
theorem den_lt {p q : Rat} {b d : Nat} (hb : p.den ≤ 2 ^ b) (hd : q.den ≤ 2 ^ d) : ((p.den : Int) * q.den).natAbs < 2 ^ (b + d + 1) := by
  rw [Int.natAbs_mul, Int.natAbs_natCast, Int.natAbs_natCast]
  refine lt2 ?_
  rw [Nat.pow_add]
  exact Nat.mul_le_mul hb hd
theorem dn {q : Rat} {d : Nat} (h : q.den ≤ 2 ^ d) : (q.den : Int).natAbs ≤ 2 ^ d := by rwa [Int.natAbs_natCast]
theorem wadd_x {x y : Wt} (h : wOk (wAdd x y) = true) : wOk x = true ∧ wOk y = true := by
  match x, y with
  | none, y => exact ⟨rfl, h⟩
  | some (a, b), none => exact ⟨h, rfl⟩
  | some (a, b), some (c, d) =>
    have h3 := wOk_some h
    simp only [wOk, Bool.and_eq_true, decide_eq_true_eq]
    omega
theorem add_w (hP : PartsOk P iS iM) {f : Nat} (hf : P.fns[f]? = some ⟨2, 2, irAdd iM⟩) {x y : Wt} {p q : Rat} (hp : HW x p) (hq : HW y q) (hw : wOk (wAdd x y) = true) : runF P (n + 3) f [encQ p, encQ q] m = .ok (encQ (p + q)) m := by
  rw [runF_at hf rfl]
  obtain ⟨hx, hy⟩ := wadd_x hw
  obtain ⟨a, b, p1, p2, p3⟩ := hp.nums
  obtain ⟨c, d, q1, q2, q3⟩ := hq.nums
  obtain ⟨l1, l2, l3, l4, l5⟩ := sum_lim p3 q3 hw hx hy
  have hb : (p.den : Int) * q.den ≠ 0 := Int.mul_ne_zero (den_ne p) (den_ne q)
  have e : p + q = Rat.divInt (p.num * q.den + q.num * p.den) ((p.den : Int) * q.den) := by
    rw [← Rat.divInt_add_divInt _ _ (den_ne p) (den_ne q), rat_num, rat_num]
  rw [e]
  have md := made_big (n := n) (m := m) (t := p.num * q.den + q.num * p.den) hP hb (den_lt p2 q2) (by omega)
  have m1 : MulG p.num q.den := mgN p1 (dn q2) (by omega)
  have m2 : MulG q.num p.den := mgN q1 (dn p2) (by omega)
  have m3 : MulG p.den q.den := mgN (dn p2) (dn q2) (by omega)
  generalize encQ (Rat.divInt (p.num * q.den + q.num * p.den) ((p.den : Int) * q.den)) = R at md
  simp only [fin_rt, fin_nx, fin_exn, seq_nx, seq_rt, seq_exn, seq_bk, seq_ct, bind_ok, bind_exn, out_ok, out_exn, tst_ok, tst_exn, gc_ok_, gc_exn, gcM_same, asB_bl, selB_t, selB_f, selE_t, selE_f, rdV_some, stT_some, e_var, e_con, e_glo, e_nop, t_bin, t_neg, t_not, t_cmp, t_cmp2, cmp2T_t, cmp2T_f, t_and, t_or, t_if, t_idx, t_tup, t_lst, t_call, t_blt, t_mth, mthT_t, es_nil, ts_cons, b_nil, tb_cons, ts_asg, ts_expr, ts_if, ts_ret, s_rais, seqT_nx, seqT_rt, seqT_exn, seqT_bk, seqT_ct, bindT_ok, bindT_exn, outT_ok, outT_exn, tstT_ok, tstT_exn, asBT_bl, c_eqI, c_neI, c_ltI, c_leI, c_gtI, c_geI, o_addI, o_subI, n_I, abs_N, ix_tup, lift_some, at0, at1, at2, at3, asT_var, asT_tup, asTs_nil, asTs_cons, ctl_call, List.getElem?_cons_zero, List.getElem?_cons_succ, List.set_cons_zero, List.set_cons_succ, List.length_cons, List.length_nil, List.map_cons, List.map_nil, List.cons_append, List.nil_append, List.replicate_succ, List.replicate_zero, Nat.reduceAdd, Nat.reduceSub, Nat.reduceLT, Nat.reduceLeDiff, sz, Option.bind_some, Option.bind_none, Option.map_some, Bool.false_eq_true, if_true, if_false, reduceIte, Nat.zero_add, startE, Bool.not_true, Bool.not_false, decide_true, decide_false, irAdd, encQ, o_mulI m1, o_mulI m2, o_mulI m3, md]
theorem less_w (hP : PartsOk P iS iM) {f : Nat} (hf : P.fns[f]? = some ⟨2, 2, irLess iM⟩) {x y : Wt} {p q : Rat} (hp : HW x p) (hq : HW y q) (hw : wOk (wAdd x y) = true) : runF P (n + 3) f [encQ p, encQ q] m = .ok (encQ (p - q)) m := by
  rw [runF_at hf rfl]
  obtain ⟨hx, hy⟩ := wadd_x hw
  obtain ⟨a, b, p1, p2, p3⟩ := hp.nums
  obtain ⟨c, d, q1, q2, q3⟩ := hq.nums
  obtain ⟨l1, l2, l3, l4, l5⟩ := sum_lim p3 q3 hw hx hy
  have hb : (p.den : Int) * q.den ≠ 0 := Int.mul_ne_zero (den_ne p) (den_ne q)
  have e : p - q = Rat.divInt (p.num * q.den - q.num * p.den) ((p.den : Int) * q.den) := by
    rw [← Rat.divInt_sub_divInt _ _ (den_ne p) (den_ne q), rat_num, rat_num]
  rw [e]
  have md := made_big (n := n) (m := m) (t := p.num * q.den - q.num * p.den) hP hb (den_lt p2 q2) (by omega)
  have m1 : MulG p.num q.den := mgN p1 (dn q2) (by omega)
  have m2 : MulG q.num p.den := mgN q1 (dn p2) (by omega)
  have m3 : MulG p.den q.den := mgN (dn p2) (dn q2) (by omega)
  generalize encQ (Rat.divInt (p.num * q.den - q.num * p.den) ((p.den : Int) * q.den)) = R at md
  simp only [fin_rt, fin_nx, fin_exn, seq_nx, seq_rt, seq_exn, seq_bk, seq_ct, bind_ok, bind_exn, out_ok, out_exn, tst_ok, tst_exn, gc_ok_, gc_exn, gcM_same, asB_bl, selB_t, selB_f, selE_t, selE_f, rdV_some, stT_some, e_var, e_con, e_glo, e_nop, t_bin, t_neg, t_not, t_cmp, t_cmp2, cmp2T_t, cmp2T_f, t_and, t_or, t_if, t_idx, t_tup, t_lst, t_call, t_blt, t_mth, mthT_t, es_nil, ts_cons, b_nil, tb_cons, ts_asg, ts_expr, ts_if, ts_ret, s_rais, seqT_nx, seqT_rt, seqT_exn, seqT_bk, seqT_ct, bindT_ok, bindT_exn, outT_ok, outT_exn, tstT_ok, tstT_exn, asBT_bl, c_eqI, c_neI, c_ltI, c_leI, c_gtI, c_geI, o_addI, o_subI, n_I, abs_N, ix_tup, lift_some, at0, at1, at2, at3, asT_var, asT_tup, asTs_nil, asTs_cons, ctl_call, List.getElem?_cons_zero, List.getElem?_cons_succ, List.set_cons_zero, List.set_cons_succ, List.length_cons, List.length_nil, List.map_cons, List.map_nil, List.cons_append, List.nil_append, List.replicate_succ, List.replicate_zero, Nat.reduceAdd, Nat.reduceSub, Nat.reduceLT, Nat.reduceLeDiff, sz, Option.bind_some, Option.bind_none, Option.map_some, Bool.false_eq_true, if_true, if_false, reduceIte, Nat.zero_add, startE, Bool.not_true, Bool.not_false, decide_true, decide_false, irLess, encQ, o_mulI m1, o_mulI m2, o_mulI m3, md]
theorem mul_lim {x y : Wt} {a b c d : Nat} (hx : x = Option.some (a, b) ∨ (x = none ∧ a = 0 ∧ b = 0)) (hy : y = Option.some (c, d) ∨ (y = none ∧ c = 0 ∧ d = 0)) (h : wOk (wMul x y) = true) (hx' : wOk x = true) (hy' : wOk y = true) : a + c ≤ 2000000 ∧ b + d ≤ 8990 := by
  rcases hx with rfl | ⟨rfl, rfl, rfl⟩
  · have := wOk_some hx'
    rcases hy with rfl | ⟨rfl, rfl, rfl⟩
    · have h2 := wOk_some hy'
      have h3 := wOk_some h
      omega
    · omega
  · rcases hy with rfl | ⟨rfl, rfl, rfl⟩
    · have := wOk_some hy'
      omega
    · omega
theorem times_w (hP : PartsOk P iS iM) {f : Nat} (hf : P.fns[f]? = some ⟨2, 2, irTimes iM⟩) {x y : Wt} {p q : Rat} (hp : HW x p) (hq : HW y q) (hx : wOk x = true) (hy : wOk y = true) (hw : wOk (wMul x y) = true) : runF P (n + 3) f [encQ p, encQ q] m = .ok (encQ (p * q)) m := by
  rw [runF_at hf rfl]
  obtain ⟨a, b, p1, p2, p3⟩ := hp.nums
  obtain ⟨c, d, q1, q2, q3⟩ := hq.nums
  obtain ⟨l1, l2⟩ := mul_lim p3 q3 hw hx hy
  have hb : (p.den : Int) * q.den ≠ 0 := Int.mul_ne_zero (den_ne p) (den_ne q)
  have e : p * q = Rat.divInt (p.num * q.num) ((p.den : Int) * q.den) := by
    rw [← Rat.divInt_mul_divInt, rat_num, rat_num]
  rw [e]
  have md := made_big (n := n) (m := m) (t := p.num * q.num) hP hb (den_lt p2 q2) (by omega)
  have m1 : MulG p.num q.num := mgN p1 q1 (by omega)
  have m3 : MulG p.den q.den := mgN (dn p2) (dn q2) (by omega)
  generalize encQ (Rat.divInt (p.num * q.num) ((p.den : Int) * q.den)) = R at md
  simp only [fin_rt, fin_nx, fin_exn, seq_nx, seq_rt, seq_exn, seq_bk, seq_ct, bind_ok, bind_exn, out_ok, out_exn, tst_ok, tst_exn, gc_ok_, gc_exn, gcM_same, asB_bl, selB_t, selB_f, selE_t, selE_f, rdV_some, stT_some, e_var, e_con, e_glo, e_nop, t_bin, t_neg, t_not, t_cmp, t_cmp2, cmp2T_t, cmp2T_f, t_and, t_or, t_if, t_idx, t_tup, t_lst, t_call, t_blt, t_mth, mthT_t, es_nil, ts_cons, b_nil, tb_cons, ts_asg, ts_expr, ts_if, ts_ret, s_rais, seqT_nx, seqT_rt, seqT_exn, seqT_bk, seqT_ct, bindT_ok, bindT_exn, outT_ok, outT_exn, tstT_ok, tstT_exn, asBT_bl, c_eqI, c_neI, c_ltI, c_leI, c_gtI, c_geI, o_addI, o_subI, n_I, abs_N, ix_tup, lift_some, at0, at1, at2, at3, asT_var, asT_tup, asTs_nil, asTs_cons, ctl_call, List.getElem?_cons_zero, List.getElem?_cons_succ, List.set_cons_zero, List.set_cons_succ, List.length_cons, List.length_nil, List.map_cons, List.map_nil, List.cons_append, List.nil_append, List.replicate_succ, List.replicate_zero, Nat.reduceAdd, Nat.reduceSub, Nat.reduceLT, Nat.reduceLeDiff, sz, Option.bind_some, Option.bind_none, Option.map_some, Bool.false_eq_true, if_true, if_false, reduceIte, Nat.zero_add, startE, Bool.not_true, Bool.not_false, decide_true, decide_false, irTimes, encQ, o_mulI m1, o_mulI m3, md]
theorem div_lim {x y : Wt} {a b c d : Nat} (hx : x = Option.some (a, b) ∨ (x = none ∧ a = 0 ∧ b = 0)) (hy : y = Option.some (c, d)) (h : wOk (wDiv x y) = true) (hx' : wOk x = true) (hy' : wOk y = true) (h0 : c ≤ 8990 ∨ x ≠ none) : a + d ≤ 2000000 ∧ b + c ≤ 8990 := by
  subst hy
  have h2 := wOk_some hy'
  rcases hx with rfl | ⟨rfl, rfl, rfl⟩
  · have := wOk_some hx'
    have h3 := wOk_some h
    omega
  · rcases h0 with h0 | h0
    · omega
    · exact absurd rfl h0
theorem over_w (hP : PartsOk P iS iM) {f : Nat} (hf : P.fns[f]? = some ⟨2, 2, irOver iM⟩) {x : Wt} {c d : Nat} {p q : Rat} (hp : HW x p) (hq : HW (some (c, d)) q) (h0 : q ≠ 0) (hx : wOk x = true) (hy : wOk (some (c, d)) = true) (hc : c ≤ 8990) (hw : wOk (wDiv x (some (c, d))) = true) : runF P (n + 3) f [encQ p, encQ q] m = .ok (encQ (p / q)) m := by
  rw [runF_at hf rfl]
  obtain ⟨a, b, p1, p2, p3⟩ := hp.nums
  obtain ⟨q1, q2⟩ := hq
  obtain ⟨l1, l2⟩ := div_lim p3 rfl hw hx hy (.inl hc)
  have hn : q.num ≠ 0 := fun z => h0 (Rat.num_eq_zero.mp z)
  have hb : (p.den : Int) * q.num ≠ 0 := Int.mul_ne_zero (den_ne p) hn
  rw [div_eq]
  have bl : ((p.den : Int) * q.num).natAbs < 2 ^ (b + c + 1) := by
    rw [Int.natAbs_mul, Int.natAbs_natCast]
    refine lt2 ?_
    rw [Nat.pow_add]
    exact Nat.mul_le_mul p2 q1
  have md := made_big (n := n) (m := m) (t := p.num * q.den) hP hb bl (by omega)
  have m1 : MulG p.num q.den := mgN p1 (dn q2) (by omega)
  have m3 : MulG p.den q.num := mgN (dn p2) q1 (by omega)
  generalize encQ (Rat.divInt (p.num * q.den) ((p.den : Int) * q.num)) = R at md
  simp only [fin_rt, fin_nx, fin_exn, seq_nx, seq_rt, seq_exn, seq_bk, seq_ct, bind_ok, bind_exn, out_ok, out_exn, tst_ok, tst_exn, gc_ok_, gc_exn, gcM_same, asB_bl, selB_t, selB_f, selE_t, selE_f, rdV_some, stT_some, e_var, e_con, e_glo, e_nop, t_bin, t_neg, t_not, t_cmp, t_cmp2, cmp2T_t, cmp2T_f, t_and, t_or, t_if, t_idx, t_tup, t_lst, t_call, t_blt, t_mth, mthT_t, es_nil, ts_cons, b_nil, tb_cons, ts_asg, ts_expr, ts_if, ts_ret, s_rais, seqT_nx, seqT_rt, seqT_exn, seqT_bk, seqT_ct, bindT_ok, bindT_exn, outT_ok, outT_exn, tstT_ok, tstT_exn, asBT_bl, c_eqI, c_neI, c_ltI, c_leI, c_gtI, c_geI, o_addI, o_subI, n_I, abs_N, ix_tup, lift_some, at0, at1, at2, at3, asT_var, asT_tup, asTs_nil, asTs_cons, ctl_call, List.getElem?_cons_zero, List.getElem?_cons_succ, List.set_cons_zero, List.set_cons_succ, List.length_cons, List.length_nil, List.map_cons, List.map_nil, List.cons_append, List.nil_append, List.replicate_succ, List.replicate_zero, Nat.reduceAdd, Nat.reduceSub, Nat.reduceLT, Nat.reduceLeDiff, sz, Option.bind_some, Option.bind_none, Option.map_some, Bool.false_eq_true, if_true, if_false, reduceIte, Nat.zero_add, startE, Bool.not_true, Bool.not_false, decide_true, decide_false, irOver, encQ, o_mulI m1, o_mulI m3, md]
end
/-! ### loops -/
/-- a loop over a range, by what holds ahead of each turn -/
theorem for_inv {v : Nat} {b : EnvD → Mem → Out} (I : Nat → EnvD → Mem → Prop) {a : Int} : ∀ (k j : Nat) (env : EnvD) (m : Mem),
    (∀ i env m, j ≤ i → i < j + k → I i env m → v < env.length ∧ ∃ env' m', b (env.set v (some (.int (a + i)))) m = .nx env' m' ∧ I (i + 1) env' m') → I j env m →
    ∃ env' m', forL .none (.var v) b ((List.range' j k).map fun (i : Nat) => D.int (a + (i : Nat))) env m = .nx env' m' ∧ I (j + k) env' m'
  | 0, j, env, m, hs, h0 => ⟨env, m, by simp [forL, chkW], h0⟩
  | k + 1, j, env, m, hs, h0 => by
    obtain ⟨hl, env1, m1, e1, h1⟩ := hs j env m (Nat.le_refl _) (by omega) h0
    obtain ⟨env2, m2, e2, h2⟩ := for_inv I k (j + 1) env1 m1 (fun i env m hi1 hi2 hI => hs i env m (by omega) (by omega) hI) h1
    refine ⟨env2, m2, ?_, by rw [show j + (k + 1) = j + 1 + k by omega]; exact h2⟩
    rw [List.range'_succ, List.map_cons]
    simp only [forL, chkW, if_true, asgT, hl, e1, e2]
theorem rng_eq {a : Int} {k : Nat} : rngL a k = (List.range' 0 k).map fun (i : Nat) => D.int (a + (i : Nat)) := by
  unfold rngL
  rw [List.range_eq_range']
theorem for_rng {v : Nat} {b : EnvD → Mem → Out} (I : Nat → EnvD → Mem → Prop) {a : Int} {k : Nat} {env : EnvD} {m : Mem}
    (hs : ∀ i env m, i < k → I i env m → v < env.length ∧ ∃ env' m', b (env.set v (some (.int (a + i)))) m = .nx env' m' ∧ I (i + 1) env' m') (h0 : I 0 env m) :
    ∃ env' m', forL .none (.var v) b (rngL a k) env m = .nx env' m' ∧ I k env' m' := by
  rw [rng_eq]
  have := for_inv I (a := a) (v := v) (b := b) k 0 env m (fun i env m _ h hI => hs i env m (by omega) hI) h0
  simpa using this
/-- a comprehension whose item says the same each time -/
theorem comp_map {o : Wch} {body : D → Mem → Res (Option D)} {g : D → D} {m : Mem} (ho : chkW o m) : ∀ (l : List D), (∀ d ∈ l, body d m = .ok (some (g d)) m) → compL o body l m = .ok (l.map g) m
  | [], _ => by simp only [compL, if_pos ho, List.map_nil]
  | d :: l, h => by
    simp only [compL, if_pos ho, h d List.mem_cons_self, bind_ok, comp_map ho l (fun e he => h e (List.mem_cons_of_mem _ he)), optC, List.map_cons]
end Dat

/-! Dat27 -/
set_option linter.all false
set_option maxRecDepth 100000
set_option maxHeartbeats 4000000
/-! Dat27: the dice at its place; a law's body that leaves lists behind; what is drawn. -/
namespace Dat
open PySem L2
/-- the dice at its place, t rolls on -/
def At (E i t : Nat) (m m' : Mem) : Prop := i < m.length ∧ ∃ a b c, m' = m.set i (.lst [.int a, .int b, .int c]) ∧ DOk E t a b
theorem At.len {E i t : Nat} {m m' : Mem} (h : At E i t m m') : m'.length = m.length := by
  obtain ⟨_, a, b, c, rfl, _⟩ := h
  rw [List.length_set]
theorem At.clo {E i t : Nat} {m m' : Mem} (h : At E i t m m') (hc : Clo m) : Clo m' := by
  obtain ⟨_, a, b, c, rfl, _⟩ := h
  exact hc.set
theorem At.ne {E i t : Nat} {m m' : Mem} (h : At E i t m m') {j : Nat} (hj : i ≠ j) : m'[j]? = m[j]? := by
  obtain ⟨_, a, b, c, rfl, _⟩ := h
  rw [List.getElem?_set_ne hj]
theorem At.start {E i : Nat} {m : Mem} {a b z : Int} (hg : m[i]? = some (.lst [.int a, .int b, .int z])) (hd : DOk E 0 a b) : At E i 0 m m := by
  have hi := (List.getElem?_eq_some_iff.mp hg).1
  refine ⟨hi, a, b, z, ?_, hd⟩
  apply List.ext_getElem?
  intro j
  by_cases hj : i = j
  · subst hj
    rw [List.getElem?_set_self hi, hg]
  · rw [List.getElem?_set_ne hj]
theorem roll_at {P : Prog} {f : Nat} (hf : P.fns[f]? = some ⟨2, 3, irRoll⟩) {n E i t : Nat} {m m1 : Mem} (hE : 31 ≤ E) (hE2 : E ≤ 134217700) (h : At E i t m m1) (ht : t < 1000000) {many : Int} (h0 : 0 < many) (h1 : many < 1000) (ext : Mem) :
    ∃ r m2, 0 ≤ r ∧ r < many ∧ At E i (t + 1) m m2 ∧ runF P (n + 1) f [.ref i, .int many] (m1 ++ ext) = .ok (.int r) (m2 ++ ext) := by
  obtain ⟨hi, a, b, c, rfl, hd⟩ := h
  have hg : (m.set i (.lst [.int a, .int b, .int c]) ++ ext)[i]? = some (.lst [.int a, .int b, .int c]) := by
    rw [List.getElem?_append_left (by rw [List.length_set]; exact hi), List.getElem?_set_self hi]
  obtain ⟨r, a', b', c', r1, r2, r3, r4⟩ := roll_ok (n := n) hf hE hE2 hg hd (by omega) h0 (by omega)
  refine ⟨r, m.set i (.lst [.int a', .int b', .int c']), r1, r2, ⟨hi, a', b', c', rfl, r3⟩, ?_⟩
  rw [r4, List.set_append_left _ _ (by rw [List.length_set]; exact hi), List.set_set]
def irPart (iG iR : Nat) : List IS := [(.asg (.tup [(.var 1), (.var 2)]) (.tup [(.bin .Sub (.call iR [(.var 0), (.con (.int 61))]) (.con (.int 30))), (.bin .Add (.con (.int 1)) (.call iR [(.var 0), (.con (.int 12))]))])), (.asg (.var 3) (.call iG [(.var 1), (.var 2)])), (.ret (.tup [(.bin .FloorDiv (.var 1) (.var 3)), (.bin .FloorDiv (.var 2) (.var 3))]))]
/-- a part is drawn -/
theorem part_at {P : Prog} {f iG iR : Nat} (hf : P.fns[f]? = some ⟨1, 4, irPart iG iR⟩) (hG : P.fns[iG]? = some ⟨2, 2, irShared⟩) (hR : P.fns[iR]? = some ⟨2, 3, irRoll⟩) (htn : P.turns = 2 ^ 4096) {n E i t : Nat} {m m1 : Mem} (hE : 31 ≤ E) (hE2 : E ≤ 134217700) (h : At E i t m m1) (ht : t < 1000000 - 1) (ext : Mem) :
    ∃ q m2, HW (some (5, 4)) q ∧ At E i (t + 2) m m2 ∧ runF P (n + 2) f [.ref i] (m1 ++ ext) = .ok (encQ q) (m2 ++ ext) := by
  obtain ⟨r, m2, r1, r2, r3, r4⟩ := roll_at (n := n) hR hE hE2 h (by omega) (many := 61) (by decide) (by decide) ext
  obtain ⟨s, m3, s1, s2, s3, s4⟩ := roll_at (n := n) hR hE hE2 r3 (by omega) (many := 12) (by decide) (by decide) ext
  have len1 : m1.length = m.length := h.len
  have len3 : m3.length = m.length := s3.len
  have g : ∀ a : D, gcM (m1 ++ ext).length a (m3 ++ ext) = m3 ++ ext := fun a => by
    rw [show (m1 ++ ext).length = (m3 ++ ext).length by simp [len1, len3], gcM_same]
  have hb : (1 + s : Int) ≠ 0 := by omega
  refine ⟨Rat.divInt (r - 30) (1 + s), m3, hw_div hb (by omega) (by omega), s3, ?_⟩
  rw [runF_at hf rfl]
  have t1 := shared_any (n := n) (m := m3 ++ ext) (a := r - 30) (b := 1 + s) (N := 8) hG htn (by omega) (by omega) (by decide)
  have gl : Int.gcd (r - 30) (1 + s) < 2 ^ 8 := Nat.lt_of_le_of_lt (Int.gcd_le_natAbs_right _ hb) (by omega)
  have g0 : Int.gcd (r - 30) (1 + s) ≠ 0 := fun z => hb (Int.gcd_eq_zero_iff.mp z).2
  have gD : ∀ x : Int, DivG x (Int.gcd (r - 30) (1 + s) : Int) := fun x => divG_64 (by omega) (by
    rw [Int.natAbs_natCast]
    exact Nat.lt_of_lt_of_le gl (by decide))
  have fin : D.tup [.int ((r - 30).fdiv (Int.gcd (r - 30) (1 + s))), .int ((1 + s).fdiv (Int.gcd (r - 30) (1 + s)))] = encQ (Rat.divInt (r - 30) (1 + s)) := by
    have gp : (0 : Int) ≤ (Int.gcd (r - 30) (1 + s) : Int) := Int.natCast_nonneg _
    unfold encQ
    rw [Rat.num_divInt, Rat.den_divInt, if_neg hb, Int.fdiv_eq_ediv_of_nonneg _ gp, Int.fdiv_eq_ediv_of_nonneg _ gp, Int.gcd_comm (1 + s) (r - 30), Int.sign_eq_one_of_pos (by omega), Int.one_mul]
    congr 3
    rw [Int.natCast_ediv]
    have : (((1 + s).natAbs : Nat) : Int) = 1 + s := by omega
    rw [this]
  have d1 := gD (r - 30)
  have d2 := gD (1 + s)
  rw [← fin]
  generalize (Int.gcd (r - 30) (1 + s) : Int) = G at *
  simp only [fin_rt, fin_nx, fin_exn, seq_nx, seq_rt, seq_exn, seq_bk, seq_ct, bind_ok, bind_exn, out_ok, out_exn, tst_ok, tst_exn, gc_ok_, gc_exn, gcM_same, asB_bl, selB_t, selB_f, selE_t, selE_f, rdV_some, stT_some, e_var, e_con, e_glo, e_nop, t_bin, t_neg, t_not, t_cmp, t_cmp2, cmp2T_t, cmp2T_f, t_and, t_or, t_if, t_idx, t_tup, t_lst, t_call, t_blt, t_mth, mthT_t, es_nil, ts_cons, b_nil, tb_cons, ts_asg, ts_expr, ts_if, ts_ret, s_rais, seqT_nx, seqT_rt, seqT_exn, seqT_bk, seqT_ct, bindT_ok, bindT_exn, outT_ok, outT_exn, tstT_ok, tstT_exn, asBT_bl, c_eqI, c_neI, c_ltI, c_leI, c_gtI, c_geI, o_addI, o_subI, n_I, abs_N, ix_tup, lift_some, at0, at1, at2, at3, asT_var, asT_tup, asTs_nil, asTs_cons, ctl_call, List.getElem?_cons_zero, List.getElem?_cons_succ, List.set_cons_zero, List.set_cons_succ, List.length_cons, List.length_nil, List.map_cons, List.map_nil, List.cons_append, List.nil_append, List.replicate_succ, List.replicate_zero, Nat.reduceAdd, Nat.reduceSub, Nat.reduceLT, Nat.reduceLeDiff, sz, Option.bind_some, Option.bind_none, Option.map_some, Bool.false_eq_true, if_true, if_false, reduceIte, Nat.zero_add, startE, Bool.not_true, Bool.not_false, decide_true, decide_false, irPart, r4, s4, g, t1, o_divI d1, o_divI d2]
/-! ### a body that leaves lists behind -/
def BodyOk2 (C : Ctl) (B : List IS) (nn E : Nat) : Prop := ∀ (env : EnvD) (m : Mem) (i : Nat) (a b z : Int), env.length = nn → env[1]? = some (some (.ref i)) → Clo m → m[i]? = some (.lst [.int a, .int b, .int z]) → DOk E 0 a b →
  ∃ env' m', env'.length = nn ∧ evalB C B env m = .nx env' m' ∧ Clo m' ∧ (∀ j, j < m.length → j ≠ i → m'[j]? = m[j]?) ∧ m.length ≤ m'.length
theorem for_dice2 {C : Ctl} {B : List IS} {nn E : Nat} (hB : BodyOk2 C B nn E) (hn : 1 < nn) {r : Nat} {L : List D} : ∀ (j k : Nat) (env : EnvD) (m : Mem), env.length = nn → Clo m → m[r]? = some (.lst L) → k + j ≤ r → (∀ i, k ≤ i → i < k + j → ∃ c, m[i]? = some c ∧ IsDice E 0 c) →
    ∃ env' m', forL (.some (r, L)) (.var 1) (fun e m2 => evalB C B e m2) ((List.range' k j).map .ref) env m = .nx env' m'
  | 0, k, env, m, _, _, hr, _, _ => ⟨env, m, by
      simp only [List.range'_zero, List.map_nil, forL]
      rw [if_pos (show chkW (.some (r, L)) m from hr)]⟩
  | j + 1, k, env, m, hl, hc, hr, hk, hd => by
    obtain ⟨c, h1, a, b, z, rfl, h2⟩ := hd k (Nat.le_refl _) (by omega)
    have hl1 : (env.set 1 (some (.ref k))).length = nn := by rw [List.length_set]; exact hl
    have hrl := (List.getElem?_eq_some_iff.mp hr).1
    obtain ⟨env', m', e1, e2, e3, e4, e5⟩ := hB (env.set 1 (some (.ref k))) m k a b z hl1 (List.getElem?_set_self (by omega)) hc h1 h2
    obtain ⟨env2, m2, e6⟩ := for_dice2 hB hn j (k + 1) env' m' e1 e3 (by rw [e4 r hrl (by omega)]; exact hr) (by omega) (fun i h3 h4 => by
      rw [e4 i (by omega) (by omega)]
      exact hd i (by omega) (by omega))
    refine ⟨env2, m2, ?_⟩
    rw [List.range'_succ, List.map_cons]
    simp only [forL]
    rw [if_pos (show chkW (.some (r, L)) m from hr), asgT, if_pos (by omega)]
    simp only [e2]
    exact e6
theorem law_run2 {P : Prog} {n iR iD iL nn most : Nat} {B : List IS} (hR : P.fns[iR]? = some ⟨2, 4, irRounds iD⟩) (hD : P.fns[iD]? = some ⟨1, 1, irDice⟩)
    (hL : P.fns[iL]? = some ⟨1, nn, [(.forS (.var 1) (.seq (.call iR [(.var 0), (.con (.int most))])) B), (.ret (.con (.bl true)))]⟩) (hn : 1 < nn) (hmost : most ≤ 60) {E : Nat} (hE : 31 ≤ E)
    (hB : BodyOk2 (P.ctl (runF P (n + 2)) (runF P n) (n + 2)) B nn E) {m : Mem} (hm : Clo m) {script : D} {ns : List Int}
    (hs : ∀ lo hi, slcD script lo hi m = .ok (.ref m.length) (m ++ [.lst (cutD (ns.map .int) lo hi)])) (hz : ∀ z ∈ ns, z.natAbs < 2 ^ E) : ∃ m', runF P (n + 3) iL [script] m = .ok (.bl true) m' := by
  rw [runF_at hL rfl]
  obtain ⟨pre, ds, h1, h2, h3, h4⟩ := rounds_ok (n := n) hR hD hE hm hmost hs hz
  have e0 : evalE (.call iR [(.var 0), (.con (.int most))]) (P.ctl (runF P (n + 2)) (runF P (n + 2 - 2)) (n + 2)) (startE 1 nn [script]) m = .ok (.ref (m.length + pre.length + ds.length)) (m ++ pre ++ ds ++ [.lst ((List.range' (m.length + pre.length) ds.length).map .ref)]) := by
    simp only [fin_rt, fin_nx, fin_exn, seq_nx, seq_rt, seq_exn, seq_bk, seq_ct, bind_ok, bind_exn, out_ok, out_exn, tst_ok, tst_exn, gc_ok_, gc_exn, gcM_same, asB_bl, selB_t, selB_f, selE_t, selE_f, rdV_some, stT_some, e_var, e_con, e_glo, e_nop, t_bin, t_neg, t_not, t_cmp, t_cmp2, cmp2T_t, cmp2T_f, t_and, t_or, t_if, t_idx, t_tup, t_lst, t_call, t_blt, t_mth, mthT_t, es_nil, ts_cons, b_nil, tb_cons, ts_asg, ts_expr, ts_if, ts_ret, s_rais, seqT_nx, seqT_rt, seqT_exn, seqT_bk, seqT_ct, bindT_ok, bindT_exn, outT_ok, outT_exn, tstT_ok, tstT_exn, asBT_bl, c_eqI, c_neI, c_ltI, c_leI, c_gtI, c_geI, o_addI, o_subI, n_I, abs_N, ix_tup, lift_some, at0, at1, at2, at3, asT_var, asT_tup, asTs_nil, asTs_cons, ctl_call, List.getElem?_cons_zero, List.getElem?_cons_succ, List.set_cons_zero, List.set_cons_succ, List.length_cons, List.length_nil, List.map_cons, List.map_nil, List.cons_append, List.nil_append, List.replicate_succ, List.replicate_zero, Nat.reduceAdd, Nat.reduceSub, Nat.reduceLT, Nat.reduceLeDiff, sz, Option.bind_some, Option.bind_none, Option.map_some, Bool.false_eq_true, if_true, if_false, reduceIte, Nat.zero_add, startE, Bool.not_true, Bool.not_false, decide_true, decide_false, h4]
  obtain ⟨m1, hm1⟩ : ∃ m1, m1 = m ++ pre ++ ds ++ [Cell.lst ((List.range' (m.length + pre.length) ds.length).map .ref)] := ⟨_, rfl⟩
  rw [← hm1] at e0 h3
  have hr : m1[m.length + pre.length + ds.length]? = some (.lst ((List.range' (m.length + pre.length) ds.length).map .ref)) := by
    have : m.length + pre.length + ds.length = (m ++ pre ++ ds).length := by simp only [List.length_append]
    rw [hm1, this, List.getElem?_concat_length]
  have e1 : evalI (.seq (.call iR [(.var 0), (.con (.int most))])) (P.ctl (runF P (n + 2)) (runF P (n + 2 - 2)) (n + 2)) (startE 1 nn [script]) m = .ok ((List.range' (m.length + pre.length) ds.length).map .ref, .some (m.length + pre.length + ds.length, (List.range' (m.length + pre.length) ds.length).map .ref)) m1 := by
    simp only [evalI, e0, bind_ok, seqW, hr]
  obtain ⟨env', m', e2⟩ := for_dice2 hB hn ds.length (m.length + pre.length) (startE 1 nn [script]) m1 (by simp [startE]; omega) h3 hr (Nat.le_refl _) (fun i h5 h6 => by
    have hi : i - (m.length + pre.length) < ds.length := by omega
    refine ⟨ds[i - (m.length + pre.length)], ?_, h1 _ (List.getElem_mem hi)⟩
    rw [hm1, List.getElem?_append_left (by simp; omega), List.getElem?_append_right (by simp; omega)]
    simp)
  refine ⟨gcM m.length (.bl true) m', ?_⟩
  have e3 : evalS (P.ctl (runF P (n + 2)) (runF P (n + 2 - 2)) (n + 2)) (.forS (.var 1) (.seq (.call iR [(.var 0), (.con (.int most))])) B) (startE 1 nn [script]) m = .nx env' m' := by
    rw [s_for, e1]
    exact e2
  show finF m.length (evalB _ [_, _] _ m) = _
  rw [b_cons, e3]
  simp only [fin_rt, fin_nx, fin_exn, seq_nx, seq_rt, seq_exn, seq_bk, seq_ct, bind_ok, bind_exn, out_ok, out_exn, tst_ok, tst_exn, gc_ok_, gc_exn, gcM_same, asB_bl, selB_t, selB_f, selE_t, selE_f, rdV_some, stT_some, e_var, e_con, e_glo, e_nop, t_bin, t_neg, t_not, t_cmp, t_cmp2, cmp2T_t, cmp2T_f, t_and, t_or, t_if, t_idx, t_tup, t_lst, t_call, t_blt, t_mth, mthT_t, es_nil, ts_cons, b_nil, tb_cons, ts_asg, ts_expr, ts_if, ts_ret, s_rais, seqT_nx, seqT_rt, seqT_exn, seqT_bk, seqT_ct, bindT_ok, bindT_exn, outT_ok, outT_exn, tstT_ok, tstT_exn, asBT_bl, c_eqI, c_neI, c_ltI, c_leI, c_gtI, c_geI, o_addI, o_subI, n_I, abs_N, ix_tup, lift_some, at0, at1, at2, at3, asT_var, asT_tup, asTs_nil, asTs_cons, ctl_call, List.getElem?_cons_zero, List.getElem?_cons_succ, List.set_cons_zero, List.set_cons_succ, List.length_cons, List.length_nil, List.map_cons, List.map_nil, List.cons_append, List.nil_append, List.replicate_succ, List.replicate_zero, Nat.reduceAdd, Nat.reduceSub, Nat.reduceLT, Nat.reduceLeDiff, sz, Option.bind_some, Option.bind_none, Option.map_some, Bool.false_eq_true, if_true, if_false, reduceIte, Nat.zero_add, startE, Bool.not_true, Bool.not_false, decide_true, decide_false]
theorem plain_of2 {L : LawI} {n iR iD iL nn most : Nat} {B : List IS} (hR : L.prog.fns[iR]? = some ⟨2, 4, irRounds iD⟩) (hD : L.prog.fns[iD]? = some ⟨1, 1, irDice⟩)
    (hL : L.prog.fns[iL]? = some ⟨1, nn, [(.forS (.var 1) (.seq (.call iR [(.var 0), (.con (.int most))])) B), (.ret (.con (.bl true)))]⟩) (hn : 1 < nn) (hmost : most ≤ 60)
    (hB : ∀ E, 31 ≤ E → E ≤ 134217700 → BodyOk2 (L.prog.ctl (runF L.prog (n + 2)) (runF L.prog n) (n + 2)) B nn E) : Plain L (n + 3) 63 iL := by
  intro ns _ hb
  obtain ⟨E, hE⟩ : ∃ E, E = 1048576 := ⟨_, rfl⟩
  have hz : ∀ z ∈ ns, z.natAbs < 2 ^ E := fun z h => bits_lt (by rw [hE]; exact hb z h)
  have h1 : 31 ≤ E := by omega
  have h2 : E ≤ 134217700 := by omega
  refine ⟨law_run2 hR hD hL hn hmost h1 (hB E h1 h2) (m := []) (fun c h => by simp at h) (fun lo hi => rfl) hz, law_run2 hR hD hL hn hmost h1 (hB E h1 h2) (m := [.lst (ns.map .int)]) (fun c h => ?_) (fun lo hi => rfl) hz⟩
  rw [List.mem_singleton.mp h]
  exact ints_undr ns
/-! ### what is told of what is raised -/
theorem told_exn {C : Ctl} {f : Nat} {cl : List (Str × Str)} {e : IE} {env : EnvD} {m m1 m2 : Mem} {c s : Str} {p : Option D} (h1 : C.told.lookup f = some cl) (h2 : evalE e C.inner env m = .exn c p m1) (h3 : toldM C.sub c cl = some s) (h4 : gcM m.length (.str s) m1 = m2) :
    evalE (.told f e) C env m = .ok (.str s) m2 := by
  simp only [evalE, h1, h2, h3, gc_ok_, h4]
theorem ne_strs {x : Str} {m : Mem} (hx : PyData.strOk x = true) : cmpD .NotEq (.str x) (.str x) m = .ok (.bl false) m := by
  have e : eqD m (.str x) (.str x) = some true := by
    have h : SeqAt.shaped (.str x) = true := by
      unfold SeqAt.shaped
      simp [PyData.canLay0, PyData.depth, hx]
    show (if SeqAt.shaped (.str x) = true ∧ SeqAt.shaped (.str x) = true then some (PyData.eqv (.str x) (.str x)) else none) = _
    rw [if_pos ⟨h, h⟩]
    simp [PyData.eqv, BEq.beq]
  simp only [cmpD, e, liftO, Option.map_some, Bool.not_true]
end Dat

/-! F31 -/
set_option linter.all false
set_option maxRecDepth 100000
set_option maxHeartbeats 4000000
/-! F31: the defs of k31 that are told by hand. -/
namespace Dat.K31
open PySem PySem.Spec L2 PyProof.Rows Dat
abbrev sDI : Stmt := inClass (top 59) 0
abbrev sDH : Stmt := inClass (top 59) 5
/-- Desk.__init__'s promise: fields of its own -/
def spDI (C : Addr) : Sp := fun vs H Q _ => ∃ (p dx : Addr), vs = [.ref p] ∧ H p = some (.ins C dx []) ∧ ∀ (H' : Hp) (fs : List (Str × V)), (∀ b o, H b = some o → b ≠ p → H' b = some o) → H' p = some (.ins C dx fs) → fs.lookup ("half" : Str) = none → Q .non H'
theorem scDI : FnScope ["self"] ["self"] (defScope sDI) := ⟨rfl, rfl, rfl, by decide +kernel, rfl, by decide +kernel, by decide +kernel⟩
section
variable {P : Program} {w : World} {K : PySem.W.Frag} {mg : Str → Option Value} {base : Heap}
theorem ok_DI {f C : Addr} {fd : FuncData} (Fd : FunD K "__init__" "Desk.__init__" (defArgs sDI) (defBody sDI) (defScope sDI) [] [] f fd) (cl : Cls K C) (n1 : NoAttr K C "state") (n2 : NoAttr K C "deeds") (n3 : NoAttr K C "undone") : FnOk P w K mg base (L2.CX P w) 1 f fd ["self"] (spDI C) := by
  obtain ⟨oc, od, dV, kV, doc, pm, an, cdv, ct, osl, rfl, lk, hcd, hdv, hkv⟩ := Fd.ex
  refine fn_of lk hcd scDI (fun vs H Q E ⟨p, dx, h, _⟩ => by rw [h] <;> rfl) fun A outer s H vs Q E hr ⟨p, dx, e, hp, k⟩ => ?_
  subst e
  refine ⟨_, pss_cons (ps_fld (pv 0) (pe_tup (pa_cons pe_str (pa_cons (pe_tup (pa_cons (pe_tup (pa_cons pe_int (pa_cons pe_int pa_nil))) (pa_cons (pe_tup (pa_cons pe_int (pa_cons pe_int pa_nil))) pa_nil))) pa_nil))) rfl)
    (pss_cons (ps_fld (pv 0) (pe_lst pa_nil) rfl) (pss_one (ps_fld (pv 0) (pe_lst pa_nil) rfl))), ?_⟩
  have two : (2 : Nat) ≤ sizeLine := by decide
  have zero : (0 : Nat) ≤ sizeLine := by decide
  refine ⟨two, fun t1 m1 => ⟨two, fun t2 m2 => ⟨two, fun t3 m3 => ⟨two, fun t4 m4 => ?_⟩⟩⟩⟩
  have hp4 := keep_new (u := .tup [.str "x", .ref t3]) (keep_new (u := .tup [.ref t1, .ref t2]) (keep_new (u := .tup [.int 1, .int 1]) (keep_new (u := .tup [.int 0, .int 1]) hp m1) m2) m3) m4
  refine ⟨.ref p, rfl, p, C, dx, [], rfl, hp4, cl, n1, by decide, ?_⟩
  refine ⟨zero, fun l1 k1 => ⟨.ref p, rfl, p, C, dx, _, rfl, keep_new upd_same k1, cl, n2, by show 1 < 1000; decide, ?_⟩⟩
  refine ⟨zero, fun l2 k2 => ⟨.ref p, rfl, p, C, dx, _, rfl, keep_new upd_same k2, cl, n3, by show 2 < 1000; decide, ?_⟩⟩
  refine k _ _ (fun b o e hb => ?_) upd_same (by rw [lookup_putF, if_neg (by decide +kernel), lookup_putF, if_neg (by decide +kernel), lookup_putF, if_neg (by decide +kernel)]; rfl)
  rw [upd_ne hb]
  refine keep_new ?_ k2
  rw [upd_ne hb]
  refine keep_new ?_ k1
  rw [upd_ne hb]
  exact keep_new (keep_new (keep_new (keep_new e m1) m2) m3) m4
/-- Desk.half's promise, where its k is neither 0 nor 1: it is refused -/
def spDH (K : PySem.W.Frag) (T : List (Addr × Str)) : Sp := fun vs H Q E => ∃ (p : Addr) (k : Int), vs = [.ref p, .int k] ∧ LamX.Tabs T H ∧ 2 ≤ k ∧ ∀ ρ' H', Ext [] H ρ' H' → LamX.Tabs T H' → E (.ref (He.ga K "BadDeed")) none H'
theorem scDH : FnScope ["self", "k"] ["self", "k"] (defScope sDH) := ⟨rfl, rfl, rfl, by decide +kernel, rfl, by decide +kernel, by decide +kernel⟩
def irDH : List IS := [(.ifS (.cmp .NotIn (.var 1) (.tup [.con (.int 0), .con (.int 1)])) [.rais "BadDeed"] []), .expr (.var 1000)]
theorem cDH : cB 60 (LL.ctxOf ["self", "k"] (defScope sDH)) (defBody sDH) = some irDH := by rfl
theorem evDH (C : Ctl) {k : Int} (h : 2 ≤ k) : ∃ env, evalB C irDH [none, some (.int k)] [] = .exn "BadDeed" none env [] := by
  have h0 : k ≠ 0 := by omega
  have h1 : k ≠ 1 := by omega
  have e : cmpD .NotIn (.int k) (.tup [.int 0, .int 1]) [] = .ok (.bl true) [] := by
    have b0 : ((0 : Int) == k) = false := by simpa using Ne.symm h0
    have b1 : ((1 : Int) == k) = false := by simpa using Ne.symm h1
    have s1 : SeqAt.shaped (.int k) = true := by rfl
    have s2 : SeqAt.shaped (.list [.int 0, .int 1]) = true := by decide +kernel
    simp only [cmpD, inD, toPy, toPy0, toPy0L, s1, s2, and_self, if_true, Option.map_some, List.any_cons, List.any_nil, PyData.eqv, liftO, b0, b1, Bool.or_false, Bool.not_false]
  unfold irDH
  simp only [fin_rt, fin_nx, fin_exn, seq_nx, seq_rt, seq_exn, seq_bk, seq_ct, bind_ok, bind_exn, out_ok, out_exn, tst_ok, tst_exn, gc_ok_, gc_exn, gcM_same, asB_bl, selB_t, selB_f, selE_t, selE_f, rdV_some, stT_some, e_var, e_con, e_glo, e_nop, t_bin, t_neg, t_not, t_cmp, t_cmp2, cmp2T_t, cmp2T_f, t_and, t_or, t_if, t_idx, t_tup, t_lst, t_call, t_blt, t_mth, mthT_t, es_nil, ts_cons, b_nil, tb_cons, ts_asg, ts_expr, ts_if, ts_ret, s_rais, seqT_nx, seqT_rt, seqT_exn, seqT_bk, seqT_ct, bindT_ok, bindT_exn, outT_ok, outT_exn, tstT_ok, tstT_exn, asBT_bl, c_eqI, c_neI, c_ltI, c_leI, c_gtI, c_geI, o_addI, o_subI, n_I, abs_N, ix_tup, lift_some, at0, at1, at2, at3, asT_var, asT_tup, asTs_nil, asTs_cons, ctl_call, List.getElem?_cons_zero, List.getElem?_cons_succ, List.set_cons_zero, List.set_cons_succ, List.length_cons, List.length_nil, List.map_cons, List.map_nil, List.cons_append, List.nil_append, List.replicate_succ, List.replicate_zero, Nat.reduceAdd, Nat.reduceSub, Nat.reduceLT, Nat.reduceLeDiff, sz, Option.bind_some, Option.bind_none, Option.map_some, Bool.false_eq_true, if_true, if_false, reduceIte, Nat.zero_add, startE, Bool.not_true, Bool.not_false, decide_true, decide_false, e]
  exact ⟨_, congrArg _ (gcM_same (m := []))⟩
theorem ok_DH {T : List (Addr × Str)} {f : Addr} {fd : FuncData} {n : Nat} (F : Facts LL T K mg) (Fd : FunD K "half" "Desk.half" (defArgs sDH) (defBody sDH) (defScope sDH) [] [] f fd) (fns : ∀ k, k ≤ n → FnsOk (LL.ctxOf ["self", "k"] (defScope sDH)) LL.prog k T P w K mg base) :
    FnOk P w K mg base (L2.CX P w) (n + 1) f fd ["self", "k"] (spDH K T) := by
  obtain ⟨oc, od, dV, kV, doc, pm, an, cdv, ct, osl, rfl, lk, hcd, hdv, hkv⟩ := Fd.ex
  refine fn_of lk hcd scDH (fun vs H Q E ⟨p, k, h, _⟩ => by rw [h] <;> rfl) fun A outer s H vs Q E hr ⟨p, k, e, hT, hk, q⟩ => ?_
  subst e
  have G := good_plain (E := E) (outer := outer) (H := H) F rfl scDH hr fns
  refine ⟨_, (snd_SB 60).2 _ _ _ cDH _ _ _ _ _ _ G rfl, [], [], [none, some (.int k)], sto_nil hT, ⟨rfl, fun i d h => ?_⟩, ?_⟩
  · match i, h with
    | 0, h => cases h
    | 1, h =>
      cases h
      exact ⟨.int k, rfl, .int k⟩
    | i + 2, h => simp at h
  · obtain ⟨env, e⟩ := evDH (LL.prog.ctl (runF LL.prog n) (runF LL.prog (n - 2)) n) hk
    rw [e]
    refine fun ρ' H' σ' E' S' R' dd rp => ?_
    cases dd with
    | none => exact q ρ' H' E' S'.tabs
    | some _ => exact (show False from rp).elim
/-! ### look_rows -/
abbrev sLR : Stmt := top 56
abbrev NLR : List Str := ["term", "x", "rows", "here", "k", "part", "kind"]
abbrev cLR : Ctx := LL.ctxOf NLR (defScope sLR)
theorem scLR : FnScope NLR ["term", "x", "rows"] (defScope sLR) := ⟨rfl, rfl, rfl, by decide +kernel, rfl, by decide +kernel, by decide +kernel⟩
def twoP (many : Int) : D := .tup [.tup [.int 0, .int 1], .tup [.int many, .int 1]]
def spLR (K : PySem.W.Frag) (T : List (Addr × Str)) : Sp := fun vs H Q E => ∃ (v a b : V) (many : Int), vs = [v, a, b] ∧ LamX.Tabs T H ∧ RelD K [] H (.str "x") v ∧ RelD K [] H (twoP many) a ∧ RelD K [] H (.tup []) b ∧ 1 ≤ many ∧
  ∀ H' d v, (∀ b o, H b = some o → (∀ ps, o ≠ .tbl ps) → H' b = some o) → LamX.Tabs T H' → H' d = some (.xd [("part", v)]) → E (.ref (He.ga K "BadPaper")) (some d) H'
def irLR1 : IS := .asg (.var 3) (.idx (.var 1) (.con (.int 0)))
def lrS (i : Nat) : Stmt := (defBody sLR).getD i (.Pass ⟨0, 0, 0, 0⟩)
def irLR2 : IS := (cS 59 cLR (lrS 1)).getD .pass
theorem cLR1 : cS 59 cLR (lrS 0) = some irLR1 := by rfl
theorem cLR2 : cS 59 cLR (lrS 1) = some irLR2 := by rfl
def envLR (many : Int) : EnvD := [some (.str "x"), some (twoP many), some (.tup []), none, none, none, none]
def envLR1 (many : Int) : EnvD := [some (.str "x"), some (twoP many), some (.tup []), some (.tup [.int 0, .int 1]), none, none, none]
theorem evLR1 (C : Ctl) (many : Int) : evalS C irLR1 (envLR many) [] = .nx (envLR1 many) [] := by rfl
theorem evLR2 (C : Ctl) (many : Int) : evalS C irLR2 (envLR1 many) [] = .nx (envLR1 many) [] := by rfl
def teLR : Expr := match lrS 2 with
  | .If t _ _ _ => t
  | _ => .Name "" ⟨0, 0, 0, 0⟩
def argLR : Expr := match lrS 2 with
  | .If _ (.Raise (some (.Call _ (a :: _) _ _)) _ _ :: _) _ _ => a
  | _ => .Name "" ⟨0, 0, 0, 0⟩
def irLRt : IE := .cmp .NotEq (.var 3) (.idx (.var 1) (.con (.int 1)))
theorem cLRt : cE 59 cLR teLR = some irLRt := by rfl
theorem cLRa : cEs 59 cLR [argLR] = some [.blt .len [.var 2]] := by rfl
theorem evLRt (C : Ctl) {many : Int} (h : 1 ≤ many) : evalE irLRt C (envLR1 many) [] = .ok (.bl true) [] := by
  have b0 : ((0 : Int) == many) = false := by
    have : (0 : Int) ≠ many := by omega
    simpa using this
  have s1 : SeqAt.shaped (.tuple [.int 0, .int 1]) = true := by decide +kernel
  have s2 : SeqAt.shaped (.tuple [.int many, .int 1]) = true := by rfl
  unfold irLRt envLR1 twoP
  simp only [fin_rt, fin_nx, fin_exn, seq_nx, seq_rt, seq_exn, seq_bk, seq_ct, bind_ok, bind_exn, out_ok, out_exn, tst_ok, tst_exn, gc_ok_, gc_exn, gcM_same, asB_bl, selB_t, selB_f, selE_t, selE_f, rdV_some, stT_some, e_var, e_con, e_glo, e_nop, t_bin, t_neg, t_not, t_cmp, t_cmp2, cmp2T_t, cmp2T_f, t_and, t_or, t_if, t_idx, t_tup, t_lst, t_call, t_blt, t_mth, mthT_t, es_nil, ts_cons, b_nil, tb_cons, ts_asg, ts_expr, ts_if, ts_ret, s_rais, seqT_nx, seqT_rt, seqT_exn, seqT_bk, seqT_ct, bindT_ok, bindT_exn, outT_ok, outT_exn, tstT_ok, tstT_exn, asBT_bl, c_eqI, c_neI, c_ltI, c_leI, c_gtI, c_geI, o_addI, o_subI, n_I, abs_N, ix_tup, lift_some, at0, at1, at2, at3, asT_var, asT_tup, asTs_nil, asTs_cons, ctl_call, List.getElem?_cons_zero, List.getElem?_cons_succ, List.set_cons_zero, List.set_cons_succ, List.length_cons, List.length_nil, List.map_cons, List.map_nil, List.cons_append, List.nil_append, List.replicate_succ, List.replicate_zero, Nat.reduceAdd, Nat.reduceSub, Nat.reduceLT, Nat.reduceLeDiff, sz, Option.bind_some, Option.bind_none, Option.map_some, Bool.false_eq_true, if_true, if_false, reduceIte, Nat.zero_add, startE, Bool.not_true, Bool.not_false, decide_true, decide_false, cmpD, eqD, toPy, toPy0, toPy0L, s1, s2, PyData.eqv]
  have e : PyData.eqvAll [.int 0, .int 1] [.int many, .int 1] = false := by
    simp only [PyData.eqvAll, PyData.eqv, b0, Bool.false_and]
  rw [if_pos ⟨trivial, trivial⟩, e] <;> rfl
/-- what BadPaper's making leans on -/
structure Bp31 (P : Program) (w : World) (K : PySem.W.Frag) (mg : Str → Option Value) (base : Heap) (fI : Addr) : Prop where
  T : OexC K (He.ga K "BadPaper")
  ini : PySem.W.findIn K (.ref (He.ga K "BadPaper")) "__init__" = some (some (.ref fI))
  ty : PySem.W.typeIn K (.ref fI) = some (.type "function")
  F : ∃ fd, FnOk P w K mg base (L2.CX P w) 1 fI fd ["self", "part"] (spBp (He.ga K "BadPaper")) ∧ Binds K fd ["self", "part"] []
  mg : mg "BadPaper" = some (.ref (He.ga K "BadPaper"))
theorem renv_LR {H : Hp} {v a b : V} {many : Int} (h1 : RelD K [] H (.str "x") v) (h2 : RelD K [] H (twoP many) a) (h3 : RelD K [] H (.tup []) b) : REnv K [] H (envLR many) (L2.start NLR [v, a, b]) := ⟨rfl, fun i d h => by
  match i, h with
  | 0, h => cases h; exact ⟨_, rfl, h1⟩
  | 1, h => cases h; exact ⟨_, rfl, h2⟩
  | 2, h => cases h; exact ⟨_, rfl, h3⟩
  | 3, h => cases h
  | 4, h => cases h
  | 5, h => cases h
  | 6, h => cases h
  | i + 7, h => simp [envLR] at h⟩
theorem ok_LR {T : List (Addr × Str)} {f fI : Addr} {fd : FuncData} {n : Nat} (F : Facts LL T K mg) (B : Bp31 P w K mg base fI) (Fd : FunD K "look_rows" "look_rows" (defArgs sLR) (defBody sLR) (defScope sLR) [] [] f fd) (h2 : 2 ≤ n) (fns : ∀ k, k ≤ n → FnsOk cLR LL.prog k T P w K mg base) :
    FnOk P w K mg base (L2.CX P w) (n + 1) f fd ["term", "x", "rows"] (spLR K T) := by
  obtain ⟨oc, od, dV, kV, doc, pm, an, cdv, ct, osl, rfl, lk, hcd, hdv, hkv⟩ := Fd.ex
  refine fn_of lk hcd scLR (fun vs H Q E ⟨v, a, b, many, h, _⟩ => by rw [h] <;> rfl) fun A outer s H vs Q E hr ⟨v, a, b, many, e, hT, r1, r2, r3, hm, q⟩ => ?_
  subst e
  have G := good_plain (E := E) (outer := outer) (H := H) F rfl scLR hr fns
  obtain ⟨fdI, FI, bI⟩ := B.F
  have S0 := sto_nil (K := K) hT
  have R0 := renv_LR r1 r2 r3
  have raise := fun (p p2 p3 p4 : Pos) => ps_raise (pos := p4) G.calm G.tk (pmk_oex (x := "BadPaper") (p := p) (pos := p2) B.T B.ini B.ty FI (hr.mono h2) bI .nil (fun _ _ _ _ _ _ _ h => by obtain ⟨_, _, _, _, _, _, _, _, _, _, _, _, z⟩ := h; exact z.elim) (show (defScope sLR).names.lookup _ = _ by decide +kernel) B.mg
    ((snd_all 59).2.1 _ _ _ cLRa _ _ _ _ _ _ G) (by decide) rfl rfl)
  refine ⟨_, pss_cons ((snd_SB 59).1 _ _ _ cLR1 _ _ _ _ _ _ G rfl) (pss_cons ((snd_SB 59).1 _ _ _ cLR2 _ _ _ _ _ _ G rfl) (pss_one (ps_if ((snd_all 59).1 _ _ _ cLRt _ _ _ _ _ _ G).2 (pss_one (raise _ _ ⟨0, 0, 0, 0⟩ _)) pss_nil))), ?_⟩
  refine ⟨[], [], envLR many, S0, R0, ?_⟩
  rw [evLR1]
  intro ρ1 H1 σ1 E1 S1 R1
  refine ⟨ρ1, [], envLR1 many, S1, R1, ?_⟩
  rw [evLR2]
  intro ρ2 H2 σ2 E2 S2 R2
  refine ⟨ρ2, [], envLR1 many, S2, R2, ?_⟩
  rw [evLRt _ hm]
  refine fun ρ3 H3 E3 S3 => ⟨true, rfl, iteT ?_⟩
  refine ⟨ρ3, [], envLR1 many, S3, R2.mono S2 E3, ?_⟩
  refine fun ρ4 H4 E4 S4 vs r => ?_
  obtain rfl : vs = [.int 0] := by
    cases r with
    | cons a b =>
      cases b
      cases a
      rfl
  have EE : Ext [] H ρ4 H4 := (E1.trans E2).trans (E3.trans E4)
  refine ⟨by decide, fun a na => ⟨a, .int 0, rfl, upd_same, fun dx hdx ne => ⟨rfl, dx, _, upd_same, (upd_ne ne).trans upd_same, (upd_ne ne).symm.trans hdx, ?_⟩⟩⟩
  have nd : H4 dx = none := (upd_ne ne).symm.trans hdx
  have kp : ∀ b o, H4 b = some o → (upd (del (upd (upd (upd H4 a (exo a (He.ga K "BadPaper") none)) dx (exd dx [("part", .int 0)])) a (exo a (He.ga K "BadPaper") (some dx))) a) dx (.xd [("part", .int 0)])) b = some o := fun b o h => by
    have n1 : b ≠ a := ne_of_none h na
    have n2 : b ≠ dx := ne_of_none h nd
    rw [upd_ne n2, del_ne n1, upd_ne n1, upd_ne n2, upd_ne n1]
    exact h
  exact q _ dx (.int 0) (fun b o h nt => kp b o (EE.keep b o h (by simp) nt)) (S4.tabs.ext kp) upd_same
end
end Dat.K31

/-! G31 -/
set_option linter.all false
set_option maxRecDepth 100000
set_option maxHeartbeats 4000000
set_option exponentiation.threshold 10000
/-! G31: k31's law by hand: what its pieces evaluate to. -/
namespace Dat.K31
open PySem PySem.Spec L2 PyProof.Rows Dat
abbrev Cn (n : Nat) : Ctl := LL.prog.ctl (runF LL.prog n) (runF LL.prog (n - 2)) n
theorem parts : PartsOk LL.prog 1 2 := ⟨rfl, rfl, rfl⟩
section
variable {n : Nat} {m : Mem}
theorem sg_0 : runF LL.prog (n + 1) 8 [.tup [.int 0, .int 1]] m = .ok (.int 0) m := by
  rw [runF_at (show LL.prog.fns[8]? = some ⟨1, 1, ir_sign⟩ from rfl) rfl]
  exact gc_same
theorem sg_1 : runF LL.prog (n + 1) 8 [.tup [.int 1, .int 1]] m = .ok (.int 1) m := by
  rw [runF_at (show LL.prog.fns[8]? = some ⟨1, 1, ir_sign⟩ from rfl) rfl]
  exact gc_same
theorem ls_0 : runF LL.prog (n + 3) 4 [.tup [.int 0, .int 1], .tup [.int 0, .int 1]] m = .ok (.tup [.int 0, .int 1]) m := by
  have e := less_w (n := n) (m := m) (f := 4) (p := 0) (q := 0) (x := some (1, 1)) (y := some (1, 1)) parts rfl ⟨by decide, by decide⟩ ⟨by decide, by decide⟩ (by decide)
  rw [show (0 : Rat) - 0 = 0 by grind] at e
  exact e
theorem ls_1 : runF LL.prog (n + 3) 4 [.tup [.int 1, .int 1], .tup [.int 0, .int 1]] m = .ok (.tup [.int 1, .int 1]) m := by
  have e := less_w (n := n) (m := m) (f := 4) (p := 1) (q := 0) (x := some (1, 1)) (y := some (1, 1)) parts rfl ⟨by decide, by decide⟩ ⟨by decide, by decide⟩ (by decide)
  rw [show (1 : Rat) - 0 = 1 by grind] at e
  exact e
theorem or_0 : runF LL.prog (n + 4) 9 [.tup [.int 0, .int 1], .tup [.int 0, .int 1]] m = .ok (.int 0) m := by
  rw [runF_at (show LL.prog.fns[9]? = some ⟨2, 2, ir_order⟩ from rfl) rfl]
  have a := ls_0 (n := n) (m := m)
  have b := sg_0 (n := n + 2) (m := m)
  simp only [fin_rt, fin_nx, fin_exn, seq_nx, seq_rt, seq_exn, seq_bk, seq_ct, bind_ok, bind_exn, out_ok, out_exn, tst_ok, tst_exn, gc_ok_, gc_exn, gcM_same, asB_bl, selB_t, selB_f, selE_t, selE_f, rdV_some, stT_some, e_var, e_con, e_glo, e_nop, t_bin, t_neg, t_not, t_cmp, t_cmp2, cmp2T_t, cmp2T_f, t_and, t_or, t_if, t_idx, t_tup, t_lst, t_call, t_blt, t_mth, mthT_t, es_nil, ts_cons, b_nil, tb_cons, ts_asg, ts_expr, ts_if, ts_ret, s_rais, seqT_nx, seqT_rt, seqT_exn, seqT_bk, seqT_ct, bindT_ok, bindT_exn, outT_ok, outT_exn, tstT_ok, tstT_exn, asBT_bl, c_eqI, c_neI, c_ltI, c_leI, c_gtI, c_geI, o_addI, o_subI, n_I, abs_N, ix_tup, lift_some, at0, at1, at2, at3, asT_var, asT_tup, asTs_nil, asTs_cons, ctl_call, List.getElem?_cons_zero, List.getElem?_cons_succ, List.set_cons_zero, List.set_cons_succ, List.length_cons, List.length_nil, List.map_cons, List.map_nil, List.cons_append, List.nil_append, List.replicate_succ, List.replicate_zero, Nat.reduceAdd, Nat.reduceSub, Nat.reduceLT, Nat.reduceLeDiff, sz, Option.bind_some, Option.bind_none, Option.map_some, Bool.false_eq_true, if_true, if_false, reduceIte, Nat.zero_add, startE, Bool.not_true, Bool.not_false, decide_true, decide_false, ir_order, a, b]
theorem or_1 : runF LL.prog (n + 4) 9 [.tup [.int 1, .int 1], .tup [.int 0, .int 1]] m = .ok (.int 1) m := by
  rw [runF_at (show LL.prog.fns[9]? = some ⟨2, 2, ir_order⟩ from rfl) rfl]
  have a := ls_1 (n := n) (m := m)
  have b := sg_1 (n := n + 2) (m := m)
  simp only [fin_rt, fin_nx, fin_exn, seq_nx, seq_rt, seq_exn, seq_bk, seq_ct, bind_ok, bind_exn, out_ok, out_exn, tst_ok, tst_exn, gc_ok_, gc_exn, gcM_same, asB_bl, selB_t, selB_f, selE_t, selE_f, rdV_some, stT_some, e_var, e_con, e_glo, e_nop, t_bin, t_neg, t_not, t_cmp, t_cmp2, cmp2T_t, cmp2T_f, t_and, t_or, t_if, t_idx, t_tup, t_lst, t_call, t_blt, t_mth, mthT_t, es_nil, ts_cons, b_nil, tb_cons, ts_asg, ts_expr, ts_if, ts_ret, s_rais, seqT_nx, seqT_rt, seqT_exn, seqT_bk, seqT_ct, bindT_ok, bindT_exn, outT_ok, outT_exn, tstT_ok, tstT_exn, asBT_bl, c_eqI, c_neI, c_ltI, c_leI, c_gtI, c_geI, o_addI, o_subI, n_I, abs_N, ix_tup, lift_some, at0, at1, at2, at3, asT_var, asT_tup, asTs_nil, asTs_cons, ctl_call, List.getElem?_cons_zero, List.getElem?_cons_succ, List.set_cons_zero, List.set_cons_succ, List.length_cons, List.length_nil, List.map_cons, List.map_nil, List.cons_append, List.nil_append, List.replicate_succ, List.replicate_zero, Nat.reduceAdd, Nat.reduceSub, Nat.reduceLT, Nat.reduceLeDiff, sz, Option.bind_some, Option.bind_none, Option.map_some, Bool.false_eq_true, if_true, if_false, reduceIte, Nat.zero_add, startE, Bool.not_true, Bool.not_false, decide_true, decide_false, ir_order, a, b]
theorem ho_1 : runF LL.prog (n + 5) 25 [.tup [.tup [.int 0, .int 1], .tup [.int 1, .int 1]], .tup [.int 0, .int 1]] m = .ok (.bl true) m := by
  rw [runF_at (show LL.prog.fns[25]? = some ⟨2, 2, ir_holds⟩ from rfl) rfl]
  have a := or_0 (n := n) (m := m)
  have b := or_1 (n := n) (m := m)
  have i0 : idxD (.tup [.tup [.int 0, .int 1], .tup [.int 1, .int 1]]) (.int 0) m = .ok (.tup [.int 0, .int 1]) m := rfl
  have i1 : idxD (.tup [.tup [.int 0, .int 1], .tup [.int 1, .int 1]]) (.int 1) m = .ok (.tup [.int 1, .int 1]) m := rfl
  simp only [fin_rt, fin_nx, fin_exn, seq_nx, seq_rt, seq_exn, seq_bk, seq_ct, bind_ok, bind_exn, out_ok, out_exn, tst_ok, tst_exn, gc_ok_, gc_exn, gcM_same, asB_bl, selB_t, selB_f, selE_t, selE_f, rdV_some, stT_some, e_var, e_con, e_glo, e_nop, t_bin, t_neg, t_not, t_cmp, t_cmp2, cmp2T_t, cmp2T_f, t_and, t_or, t_if, t_idx, t_tup, t_lst, t_call, t_blt, t_mth, mthT_t, es_nil, ts_cons, b_nil, tb_cons, ts_asg, ts_expr, ts_if, ts_ret, s_rais, seqT_nx, seqT_rt, seqT_exn, seqT_bk, seqT_ct, bindT_ok, bindT_exn, outT_ok, outT_exn, tstT_ok, tstT_exn, asBT_bl, c_eqI, c_neI, c_ltI, c_leI, c_gtI, c_geI, o_addI, o_subI, n_I, abs_N, ix_tup, lift_some, at0, at1, at2, at3, asT_var, asT_tup, asTs_nil, asTs_cons, ctl_call, List.getElem?_cons_zero, List.getElem?_cons_succ, List.set_cons_zero, List.set_cons_succ, List.length_cons, List.length_nil, List.map_cons, List.map_nil, List.cons_append, List.nil_append, List.replicate_succ, List.replicate_zero, Nat.reduceAdd, Nat.reduceSub, Nat.reduceLT, Nat.reduceLeDiff, sz, Option.bind_some, Option.bind_none, Option.map_some, Bool.false_eq_true, if_true, if_false, reduceIte, Nat.zero_add, startE, Bool.not_true, Bool.not_false, decide_true, decide_false, ir_holds, a, b, i0, i1, show (0 : Int) ≤ 0 by decide, show (0 : Int) ≤ 1 by decide]
end
theorem deep_ok (n : Nat) (env : EnvD) (m : Mem) : evalE irDeep (Cn (n + 5)) env m = .ok (.bl true) m := by
  simp only [fin_rt, fin_nx, fin_exn, seq_nx, seq_rt, seq_exn, seq_bk, seq_ct, bind_ok, bind_exn, out_ok, out_exn, tst_ok, tst_exn, gc_ok_, gc_exn, gcM_same, asB_bl, selB_t, selB_f, selE_t, selE_f, rdV_some, stT_some, e_var, e_con, e_glo, e_nop, t_bin, t_neg, t_not, t_cmp, t_cmp2, cmp2T_t, cmp2T_f, t_and, t_or, t_if, t_idx, t_tup, t_lst, t_call, t_blt, t_mth, mthT_t, es_nil, ts_cons, b_nil, tb_cons, ts_asg, ts_expr, ts_if, ts_ret, s_rais, seqT_nx, seqT_rt, seqT_exn, seqT_bk, seqT_ct, bindT_ok, bindT_exn, outT_ok, outT_exn, tstT_ok, tstT_exn, asBT_bl, c_eqI, c_neI, c_ltI, c_leI, c_gtI, c_geI, o_addI, o_subI, n_I, abs_N, ix_tup, lift_some, at0, at1, at2, at3, asT_var, asT_tup, asTs_nil, asTs_cons, ctl_call, List.getElem?_cons_zero, List.getElem?_cons_succ, List.set_cons_zero, List.set_cons_succ, List.length_cons, List.length_nil, List.map_cons, List.map_nil, List.cons_append, List.nil_append, List.replicate_succ, List.replicate_zero, Nat.reduceAdd, Nat.reduceSub, Nat.reduceLT, Nat.reduceLeDiff, sz, Option.bind_some, Option.bind_none, Option.map_some, Bool.false_eq_true, if_true, if_false, reduceIte, Nat.zero_add, startE, Bool.not_true, Bool.not_false, decide_true, decide_false, irDeep, ho_1]
theorem deep_no (n : Nat) (h : n ≤ 4) (env : EnvD) (m : Mem) : evalE irDeep (Cn n) env m = .stuck := by
  match n, h with
  | 0, _ => kernel_rfl
  | 1, _ => kernel_rfl
  | 2, _ => kernel_rfl
  | 3, _ => kernel_rfl
  | 4, _ => kernel_rfl
/-! what the lambdas call raises -/
theorem ex_0 (n : Nat) (many : Int) : runF LL.prog (n + 3) 2 [.int many, .int 0] [] = .exn "BadNumber" none [] := by kernel_rfl
theorem ex_1 (n : Nat) (many : Int) : runF LL.prog (n + 3) 31 [.int many] [] = .exn "BadTerm" none [] := by kernel_rfl
def divT : D := .tup [.str "/", .str "x", .tup [.str "p", .tup [.int 0, .int 1]]]
theorem ex_3 (n : Nat) (many : Int) : runF LL.prog (n + 3) 33 [divT, .tup [.int many, .int 1]] [] = .exn "NoWay" none [] := by kernel_rfl
def isX (r : Res D) (c : Str) : Bool := match r with | .exn x none _ => decide (x = c) | _ => false
theorem isX_of {r : Res D} {c : Str} (h : isX r c = true) : ∃ m, r = .exn c none m := by
  unfold isX at h
  split at h
  · rw [of_decide_eq_true h]
    exact ⟨_, rfl⟩
  · cases h
theorem ex_4a (n : Nat) : isX (runF LL.prog (n + 3) 44 [.int 61, .int 0] []) "TooLarge" = true := by kernel_rfl
theorem ex_4b (n : Nat) : isX (runF LL.prog (n + 3) 44 [.int 61, .int 1] []) "TooLarge" = true := by kernel_rfl
theorem ex_4c (n : Nat) : isX (runF LL.prog (n + 3) 44 [.int 61, .int 2] []) "TooLarge" = true := by kernel_rfl
theorem ex_4d (n : Nat) : isX (runF LL.prog (n + 3) 44 [.int 61, .int 3] []) "TooLarge" = true := by kernel_rfl
theorem ex_4e (n : Nat) : isX (runF LL.prog (n + 3) 44 [.int 61, .int 4] []) "TooLarge" = true := by kernel_rfl
theorem ex_4 (n : Nat) (r : Int) (h0 : 0 ≤ r) (h : r < 5) : ∃ m, runF LL.prog (n + 3) 44 [.int 61, .int r] [] = .exn "TooLarge" none m := by
  have : r = 0 ∨ r = 1 ∨ r = 2 ∨ r = 3 ∨ r = 4 := by omega
  rcases this with rfl | rfl | rfl | rfl | rfl
  · exact isX_of (ex_4a n)
  · exact isX_of (ex_4b n)
  · exact isX_of (ex_4c n)
  · exact isX_of (ex_4d n)
  · exact isX_of (ex_4e n)
end Dat.K31

/-! Gl31 -/
set_option linter.all false
set_option maxRecDepth 100000
set_option maxHeartbeats 4000000
set_option exponentiation.threshold 10000
/-! Gl31: the law's lambdas. -/
namespace Dat.K31
open PySem PySem.Spec L2 PyProof.Rows Dat LamX
abbrev sLaw : Stmt := top 67
def forB : List Stmt := match defBody sLaw with | .For _ _ b _ _ :: _ => b | _ => []
def sB (i : Nat) : Stmt := forB.getD i (.Pass ⟨0, 0, 0, 0⟩)
def lamE (i : Nat) : Expr := match sB 1 with
  | .Assign _ (.List es _) _ => es.getD i (.Name "" ⟨0, 0, 0, 0⟩)
  | _ => .Name "" ⟨0, 0, 0, 0⟩
def lamP (i : Nat) : Arguments := match lamE i with | .Lambda p _ _ _ => p | _ => ⟨[], [], none, [], [], none, []⟩
def lamB (i : Nat) : Expr := match lamE i with | .Lambda _ b _ _ => b | _ => .Name "" ⟨0, 0, 0, 0⟩
def lamS (i : Nat) : Scope := match lamE i with | .Lambda _ _ s _ => s | _ => defScope sLaw
def lamQ (i : Nat) : Pos := match lamE i with | .Lambda _ _ _ q => q | _ => ⟨0, 0, 0, 0⟩
abbrev cL : Ctx := LL.ctx d_law
abbrev cLam (i : Nat) : Ctx := { cL with sc := lamS i, blk := true, lam := false, told := [], cel := [], gen := false }
def irL0 : IE := .call 2 [.var 2, .con (.int 0)]
def irL1 : IE := .call 31 [.var 2]
def irL3 : IE := .call 33 [.tup [.con (.str "/"), .con (.str "x"), .tup [.con (.str "p"), .tup [.con (.int 0), .con (.int 1)]]], .tup [.var 2, .con (.int 1)]]
def irL4 : IE := .call 44 [.con (.int 61), .bin .Mod (.var 2) (.con (.int 5))]
theorem cL0 : cE 60 (cLam 0) (lamB 0) = some irL0 := by rfl
theorem cL1 : cE 60 (cLam 1) (lamB 1) = some irL1 := by rfl
theorem cL3 : cE 60 (cLam 3) (lamB 3) = some irL3 := by rfl
theorem cL4 : cE 60 (cLam 4) (lamB 4) = some irL4 := by rfl
/-- what is behind a told lambda -/
def QOK (K : PySem.W.Frag) (T : List (Addr × Str)) (x : Str) (H : Hp) (Q : VK) : Prop := ∀ H' L H2, (∀ b o, H b = some o → (∀ ps, o ≠ .tbl ps) → H' b = some o) → LamX.Tabs T H' → (∀ b o, H' b = some o → H2 b = some o) → H' L = none → H2 L = some (.lst (toldV x)) → Q (.ref L) H2
section
variable {X : Cx} {T : List (Addr × Str)} {W : WX} {n : Nat}
theorem lam_pe (G : Good cL (Cn (n + 5)) LL.prog (n + 5) T X W) {i : Nat} {ir : IE} (hc : cE 60 (cLam i) (lamB i) = some ir) (A : Around) (outer : List Env) (s : Shared) (H : Hp) (E : XK) (f c' : Addr) (hr : Room (n + 5 - 2) (A.deeper (lamEnv X (lamS i) s.heap.objs.size f c'))) :
    PE (lamCx X A outer s H E (lamS i) f c') (lamB i) (tE X.K T (Cn (n + 5)).inner (fun cls d _ H => E cls d H) ir) :=
  ((snd_all 60).1 _ _ _ hc _ _ _ _ _ _ (G.lamG (k := n + 5 - 2) rfl (G.lam rfl) hr)).1
theorem tt_pe {K : PySem.W.Frag} {C : Ctl} {ir : IE} {x : Str} {σ : L2.St} {H : Hp} {Q : VK} {env : EnvD} (hx : x ∈ exN) (hev : ∃ m', evalE ir C env [] = .exn x none m') (hT : LamX.Tabs T H) (R : REnv K [] H env σ) (hQ : QOK K T x H Q) :
    TT31 K (fun E H' Q' => tE K T C (fun cls d _ H => E cls d H) ir σ H' Q') H Q := by
  intro N
  obtain ⟨m', e⟩ := hev
  refine ⟨[], [], env, sto_nil hT, R, ?_⟩
  rw [e]
  intro ρ' H' E' S' dd rp
  cases dd with
  | none => exact ⟨x, hx, rfl, (fun dx z => by cases z), fun L H2 k1 k2 k3 => hQ H' L H2 (fun b o h nn => E'.keep b o h (by simp) nn) S'.tabs k1 k2 k3⟩
  | some _ => exact (show False from rp).elim
def envM (many : Int) : EnvD := [none, none, some (.int many), none, none, none, none]
theorem renv_M {K : PySem.W.Frag} {H : Hp} {σ : L2.St} {many : Int} (hl : σ.length = 7) (h : σ[2]? = some (some (.int many))) : REnv K [] H (envM many) σ := ⟨hl.symm, fun i d e => by
  match i, e with
  | 0, e => cases e
  | 1, e => cases e
  | 2, e => cases e; exact ⟨_, h, .int many⟩
  | 3, e => cases e
  | 4, e => cases e
  | 5, e => cases e
  | 6, e => cases e
  | i + 7, e => simp [envM] at e⟩
theorem ev_0 (many : Int) : ∃ m', evalE irL0 (Cn (n + 5)).inner (envM many) [] = .exn "BadNumber" none m' := by
  have c : (Cn (n + 5)).inner.call = runF LL.prog (n + 3) := rfl
  unfold irL0 envM
  simp only [fin_rt, fin_nx, fin_exn, seq_nx, seq_rt, seq_exn, seq_bk, seq_ct, bind_ok, bind_exn, out_ok, out_exn, tst_ok, tst_exn, gc_ok_, gc_exn, gcM_same, asB_bl, selB_t, selB_f, selE_t, selE_f, rdV_some, stT_some, e_var, e_con, e_glo, e_nop, t_bin, t_neg, t_not, t_cmp, t_cmp2, cmp2T_t, cmp2T_f, t_and, t_or, t_if, t_idx, t_tup, t_lst, t_call, t_blt, t_mth, mthT_t, es_nil, ts_cons, b_nil, tb_cons, ts_asg, ts_expr, ts_if, ts_ret, s_rais, seqT_nx, seqT_rt, seqT_exn, seqT_bk, seqT_ct, bindT_ok, bindT_exn, outT_ok, outT_exn, tstT_ok, tstT_exn, asBT_bl, c_eqI, c_neI, c_ltI, c_leI, c_gtI, c_geI, o_addI, o_subI, n_I, abs_N, ix_tup, lift_some, at0, at1, at2, at3, asT_var, asT_tup, asTs_nil, asTs_cons, ctl_call, List.getElem?_cons_zero, List.getElem?_cons_succ, List.set_cons_zero, List.set_cons_succ, List.length_cons, List.length_nil, List.map_cons, List.map_nil, List.cons_append, List.nil_append, List.replicate_succ, List.replicate_zero, Nat.reduceAdd, Nat.reduceSub, Nat.reduceLT, Nat.reduceLeDiff, sz, Option.bind_some, Option.bind_none, Option.map_some, Bool.false_eq_true, if_true, if_false, reduceIte, Nat.zero_add, startE, Bool.not_true, Bool.not_false, decide_true, decide_false, c, ex_0]
  exact ⟨_, rfl⟩
theorem ev_1 (many : Int) : ∃ m', evalE irL1 (Cn (n + 5)).inner (envM many) [] = .exn "BadTerm" none m' := by
  have c : (Cn (n + 5)).inner.call = runF LL.prog (n + 3) := rfl
  unfold irL1 envM
  simp only [fin_rt, fin_nx, fin_exn, seq_nx, seq_rt, seq_exn, seq_bk, seq_ct, bind_ok, bind_exn, out_ok, out_exn, tst_ok, tst_exn, gc_ok_, gc_exn, gcM_same, asB_bl, selB_t, selB_f, selE_t, selE_f, rdV_some, stT_some, e_var, e_con, e_glo, e_nop, t_bin, t_neg, t_not, t_cmp, t_cmp2, cmp2T_t, cmp2T_f, t_and, t_or, t_if, t_idx, t_tup, t_lst, t_call, t_blt, t_mth, mthT_t, es_nil, ts_cons, b_nil, tb_cons, ts_asg, ts_expr, ts_if, ts_ret, s_rais, seqT_nx, seqT_rt, seqT_exn, seqT_bk, seqT_ct, bindT_ok, bindT_exn, outT_ok, outT_exn, tstT_ok, tstT_exn, asBT_bl, c_eqI, c_neI, c_ltI, c_leI, c_gtI, c_geI, o_addI, o_subI, n_I, abs_N, ix_tup, lift_some, at0, at1, at2, at3, asT_var, asT_tup, asTs_nil, asTs_cons, ctl_call, List.getElem?_cons_zero, List.getElem?_cons_succ, List.set_cons_zero, List.set_cons_succ, List.length_cons, List.length_nil, List.map_cons, List.map_nil, List.cons_append, List.nil_append, List.replicate_succ, List.replicate_zero, Nat.reduceAdd, Nat.reduceSub, Nat.reduceLT, Nat.reduceLeDiff, sz, Option.bind_some, Option.bind_none, Option.map_some, Bool.false_eq_true, if_true, if_false, reduceIte, Nat.zero_add, startE, Bool.not_true, Bool.not_false, decide_true, decide_false, c, ex_1]
  exact ⟨_, rfl⟩
theorem ev_3 (many : Int) : ∃ m', evalE irL3 (Cn (n + 5)).inner (envM many) [] = .exn "NoWay" none m' := by
  have c : (Cn (n + 5)).inner.call = runF LL.prog (n + 3) := rfl
  have e := ex_3 n many
  unfold divT at e
  unfold irL3 envM
  simp only [fin_rt, fin_nx, fin_exn, seq_nx, seq_rt, seq_exn, seq_bk, seq_ct, bind_ok, bind_exn, out_ok, out_exn, tst_ok, tst_exn, gc_ok_, gc_exn, gcM_same, asB_bl, selB_t, selB_f, selE_t, selE_f, rdV_some, stT_some, e_var, e_con, e_glo, e_nop, t_bin, t_neg, t_not, t_cmp, t_cmp2, cmp2T_t, cmp2T_f, t_and, t_or, t_if, t_idx, t_tup, t_lst, t_call, t_blt, t_mth, mthT_t, es_nil, ts_cons, b_nil, tb_cons, ts_asg, ts_expr, ts_if, ts_ret, s_rais, seqT_nx, seqT_rt, seqT_exn, seqT_bk, seqT_ct, bindT_ok, bindT_exn, outT_ok, outT_exn, tstT_ok, tstT_exn, asBT_bl, c_eqI, c_neI, c_ltI, c_leI, c_gtI, c_geI, o_addI, o_subI, n_I, abs_N, ix_tup, lift_some, at0, at1, at2, at3, asT_var, asT_tup, asTs_nil, asTs_cons, ctl_call, List.getElem?_cons_zero, List.getElem?_cons_succ, List.set_cons_zero, List.set_cons_succ, List.length_cons, List.length_nil, List.map_cons, List.map_nil, List.cons_append, List.nil_append, List.replicate_succ, List.replicate_zero, Nat.reduceAdd, Nat.reduceSub, Nat.reduceLT, Nat.reduceLeDiff, sz, Option.bind_some, Option.bind_none, Option.map_some, Bool.false_eq_true, if_true, if_false, reduceIte, Nat.zero_add, startE, Bool.not_true, Bool.not_false, decide_true, decide_false, c, e]
  exact ⟨_, rfl⟩
theorem ev_4 (many : Int) : ∃ m', evalE irL4 (Cn (n + 5)).inner (envM many) [] = .exn "TooLarge" none m' := by
  have c : (Cn (n + 5)).inner.call = runF LL.prog (n + 3) := rfl
  obtain ⟨m', e⟩ := ex_4 n (many.fmod 5) (Int.fmod_nonneg_of_pos _ (by decide)) (Int.fmod_lt_of_pos _ (by decide))
  unfold irL4 envM
  simp only [fin_rt, fin_nx, fin_exn, seq_nx, seq_rt, seq_exn, seq_bk, seq_ct, bind_ok, bind_exn, out_ok, out_exn, tst_ok, tst_exn, gc_ok_, gc_exn, gcM_same, asB_bl, selB_t, selB_f, selE_t, selE_f, rdV_some, stT_some, e_var, e_con, e_glo, e_nop, t_bin, t_neg, t_not, t_cmp, t_cmp2, cmp2T_t, cmp2T_f, t_and, t_or, t_if, t_idx, t_tup, t_lst, t_call, t_blt, t_mth, mthT_t, es_nil, ts_cons, b_nil, tb_cons, ts_asg, ts_expr, ts_if, ts_ret, s_rais, seqT_nx, seqT_rt, seqT_exn, seqT_bk, seqT_ct, bindT_ok, bindT_exn, outT_ok, outT_exn, tstT_ok, tstT_exn, asBT_bl, c_eqI, c_neI, c_ltI, c_leI, c_gtI, c_geI, o_addI, o_subI, n_I, abs_N, ix_tup, lift_some, at0, at1, at2, at3, asT_var, asT_tup, asTs_nil, asTs_cons, ctl_call, List.getElem?_cons_zero, List.getElem?_cons_succ, List.set_cons_zero, List.set_cons_succ, List.length_cons, List.length_nil, List.map_cons, List.map_nil, List.cons_append, List.nil_append, List.replicate_succ, List.replicate_zero, Nat.reduceAdd, Nat.reduceSub, Nat.reduceLT, Nat.reduceLeDiff, sz, Option.bind_some, Option.bind_none, Option.map_some, Bool.false_eq_true, if_true, if_false, reduceIte, Nat.zero_add, startE, Bool.not_true, Bool.not_false, decide_true, decide_false, c, o_modI (show (5 : Int) ≠ 0 by decide), e]
  exact ⟨_, rfl⟩
end
end Dat.K31

/-! Gm31 -/
set_option linter.all false
set_option maxRecDepth 100000
set_option maxHeartbeats 4000000
set_option exponentiation.threshold 10000
/-! Gm31: the law's lambdas that ask defs told by hand. -/
namespace Dat.K31
open PySem PySem.Spec L2 PyProof.Rows Dat LamX
abbrev CD (K : PySem.W.Frag) : Addr := He.ga K "Desk"
/-- what the law by hand leans on -/
structure H31 (P : Program) (w : World) (K : PySem.W.Frag) (mg : Str → Option Value) (base : Heap) (T : List (Addr × Str)) (fI fD fH : Addr) : Prop where
  F : Facts LL T K mg
  X : X31 K mg
  B : Bp31 P w K mg base fI
  dg : mg "Desk" = some (.ref (CD K))
  dc : Cls K (CD K)
  dk : Mk K (CD K) fD
  dm : Meth K (CD K) "half" fH
  n1 : NoAttr K (CD K) "state"
  n2 : NoAttr K (CD K) "deeds"
  n3 : NoAttr K (CD K) "undone"
  fd : ∃ fd, FunD K "__init__" "Desk.__init__" (defArgs sDI) (defBody sDI) (defScope sDI) [] [] fD fd ∧ Binds K fd ["self"] []
  fh : ∃ fd, FunD K "half" "Desk.half" (defArgs sDH) (defBody sDH) (defScope sDH) [] [] fH fd ∧ Binds K fd ["self", "k"] []
section
variable {X : Cx} {T : List (Addr × Str)} {W : WX} {n : Nat} {fI fD fH : Addr}
def irA2 : List IE := [.con (.str "x"), .tup [.tup [.con (.int 0), .con (.int 1)], .tup [.var 2, .con (.int 1)]], .tup []]
def argsOf : Expr → List Expr
  | .Call _ es _ _ => es
  | _ => []
theorem cA2 : cEs 60 (cLam 2) (argsOf (lamB 2)) = some irA2 := by rfl
theorem cA5 : cEs 60 (cLam 5) (argsOf (lamB 5)) = some [.bin .Add (.con (.int 1)) (.var 2)] := by rfl
theorem look_ok (S : H31 X.prog X.w X.K X.mg X.base T fI fD fH) (G : Good cL (Cn (n + 5)) LL.prog (n + 5) T X W) : ∃ fd, FnOk X.prog X.w X.K X.mg X.base (L2.CX X.prog X.w) (n + 3) (He.ga X.K "look_rows") fd ["term", "x", "rows"] (spLR X.K T) ∧ Binds X.K fd ["term", "x", "rows"] [] ∧ X.mg "look_rows" = some (.ref (He.ga X.K "look_rows")) ∧ PySem.W.keepIn X.K (.ref (He.ga X.K "look_rows")) = true := by
  have hm : d_look_rows ∈ LL.defs := List.mem_of_getElem? (i := 42) rfl
  obtain ⟨fd, Fd⟩ := S.F.fund d_look_rows hm
  refine ⟨fd, ok_LR (n := n + 2) S.F S.B Fd (by omega) (fun k hk => fnsOk_ctx (c := cL) (c' := cLR) rfl (G.fns k (by omega))), Fd.bindsN (allB.at_ d_look_rows hm), S.F.glo d_look_rows hm, Fd.kp⟩
theorem lam2_pe (S : H31 X.prog X.w X.K X.mg X.base T fI fD fH) (G : Good cL (Cn (n + 5)) LL.prog (n + 5) T X W) (A : Around) (outer : List Env) (s : Shared) (H : Hp) (E : XK) (f c' : Addr) (hr : Room (n + 5 - 2) (A.deeper (lamEnv X (lamS 2) s.heap.objs.size f c'))) :
    PE (lamCx X A outer s H E (lamS 2) f c') (lamB 2) (tCallS (spLR X.K T) (fun _ => E) (tA X.K T (Cn (n + 5)).inner (fun cls d _ H => E cls d H) irA2)) := by
  have G2 := G.lamG (k := n + 5 - 2) (scope := lamS 2) (A := A) (outer := outer) (s := s) (H := H) (E := E) (f := f) (c' := c') rfl (G.lam rfl) hr
  obtain ⟨fd, F, hb, hm, hk⟩ := look_ok S G
  exact pe_callS (X := lamCx X A outer s H E (lamS 2) f c') (E := fun _ => E) F hr (G2.gl (x := "look_rows") (by decide +kernel)) hm hk hb (fun σ => passAt G2.tk σ) ((snd_all 60).2.1 _ _ _ cA2 _ _ _ _ _ _ G2)
theorem tt_2 {σ : L2.St} {H : Hp} {Q : VK} {many : Int} {K : PySem.W.Frag} (hm : 1 ≤ many) (hT : LamX.Tabs T H) (hl : σ.length = 7) (h2 : σ[2]? = some (some (.int many))) (hQ : QOK K T "BadPaper" H Q) :
    TT31 K (fun E H' Q' => tCallS (spLR K T) (fun _ => E) (tA K T (Cn (n + 5)).inner (fun cls d _ H => E cls d H) irA2) σ H' Q') H Q := by
  intro N
  refine ⟨[], [], envM many, sto_nil hT, renv_M hl h2, ?_⟩
  have e : evalEs irA2 (Cn (n + 5)).inner (envM many) [] = .ok [.str "x", twoP many, .tup []] [] := by
    unfold irA2 envM
    simp only [fin_rt, fin_nx, fin_exn, seq_nx, seq_rt, seq_exn, seq_bk, seq_ct, bind_ok, bind_exn, out_ok, out_exn, tst_ok, tst_exn, gc_ok_, gc_exn, gcM_same, asB_bl, selB_t, selB_f, selE_t, selE_f, rdV_some, stT_some, e_var, e_con, e_glo, e_nop, t_bin, t_neg, t_not, t_cmp, t_cmp2, cmp2T_t, cmp2T_f, t_and, t_or, t_if, t_idx, t_tup, t_lst, t_call, t_blt, t_mth, mthT_t, es_nil, ts_cons, b_nil, tb_cons, ts_asg, ts_expr, ts_if, ts_ret, s_rais, seqT_nx, seqT_rt, seqT_exn, seqT_bk, seqT_ct, bindT_ok, bindT_exn, outT_ok, outT_exn, tstT_ok, tstT_exn, asBT_bl, c_eqI, c_neI, c_ltI, c_leI, c_gtI, c_geI, o_addI, o_subI, n_I, abs_N, ix_tup, lift_some, at0, at1, at2, at3, asT_var, asT_tup, asTs_nil, asTs_cons, ctl_call, List.getElem?_cons_zero, List.getElem?_cons_succ, List.set_cons_zero, List.set_cons_succ, List.length_cons, List.length_nil, List.map_cons, List.map_nil, List.cons_append, List.nil_append, List.replicate_succ, List.replicate_zero, Nat.reduceAdd, Nat.reduceSub, Nat.reduceLT, Nat.reduceLeDiff, sz, Option.bind_some, Option.bind_none, Option.map_some, Bool.false_eq_true, if_true, if_false, reduceIte, Nat.zero_add, startE, Bool.not_true, Bool.not_false, decide_true, decide_false]
    rfl
  rw [e]
  intro ρ' H' E' S' vs r
  obtain rfl : ρ' = [] := List.eq_nil_of_length_eq_zero S'.len
  cases r with
  | cons r1 rr =>
  cases rr with
  | cons r2 rr =>
  cases rr with
  | cons r3 rr =>
  cases rr
  refine ⟨_, _, _, many, rfl, S'.tabs, r1, r2, r3, hm, fun H'' d v k t hd => ?_⟩
  exact ⟨"BadPaper", by decide +kernel, rfl, (fun dx z => by cases z; exact ⟨_, hd⟩), fun L H2 k1 k2 k3 => hQ H'' L H2 (fun b o h nn => k b o (E'.keep b o h (by simp) nn) nn) t k1 k2 k3⟩
theorem half_ok (S : H31 X.prog X.w X.K X.mg X.base T fI fD fH) (G : Good cL (Cn (n + 5)) LL.prog (n + 5) T X W) : ∃ fd, FnOk X.prog X.w X.K X.mg X.base (L2.CX X.prog X.w) (n + 3) fH fd ["self", "k"] (spDH X.K T) ∧ Binds X.K fd ["self", "k"] [] := by
  obtain ⟨fd, Fd, hb⟩ := S.fh
  exact ⟨fd, ok_DH (n := n + 2) S.F Fd (fun k hk => fnsOk_ctx (c := cL) (c' := LL.ctxOf ["self", "k"] (defScope sDH)) rfl (G.fns k (by omega))), hb⟩
theorem lam5_pe (S : H31 X.prog X.w X.K X.mg X.base T fI fD fH) (G : Good cL (Cn (n + 5)) LL.prog (n + 5) T X W) (A : Around) (outer : List Env) (s : Shared) (H : Hp) (E : XK) (f c' : Addr) (hr : Room (n + 5 - 2) (A.deeper (lamEnv X (lamS 5) s.heap.objs.size f c'))) :
    PE (lamCx X A outer s H E (lamS 5) f c') (lamB 5) (tMeth (CD X.K) "half" (spDH X.K T) [] E (tVar 3) (tA X.K T (Cn (n + 5)).inner (fun cls d _ H => E cls d H) [.bin .Add (.con (.int 1)) (.var 2)])) := by
  have G2 := G.lamG (k := n + 5 - 2) (scope := lamS 5) (A := A) (outer := outer) (s := s) (H := H) (E := E) (f := f) (c' := c') rfl (G.lam rfl) hr
  obtain ⟨fd, F, hb⟩ := half_ok S G
  exact pe_meth (X := lamCx X A outer s H E (lamS 5) f c') (E := E) (pe_var (i := 3) (by show (lamCx X A outer s H E (lamS 5) f c').N[3]? = _; rw [G2.hN]; rfl) (.inr (.inr (by show (lamS 5).names.lookup _ = _; decide +kernel)))) S.dc S.dm F hr hb .nil (fun pins σ H s e s' I c => passAt G2.tk σ pins H s e s' I c) ((snd_all 60).2.1 _ _ _ cA5 _ _ _ _ _ _ G2)
theorem tt_5 {σ : L2.St} {H : Hp} {Q : VK} {many : Int} {K : PySem.W.Frag} {pD dx : Addr} {fs : List (Str × V)} (hm : 1 ≤ many) (hT : LamX.Tabs T H) (hl : σ.length = 7) (h2 : σ[2]? = some (some (.int many))) (h3 : σ[3]? = some (some (.ref pD))) (hd : H pD = some (.ins (CD K) dx fs)) (hf : fs.lookup ("half" : Str) = none) (hQ : QOK K T "BadDeed" H Q) :
    TT31 K (fun E H' Q' => tMeth (CD K) "half" (spDH K T) [] E (tVar 3) (tA K T (Cn (n + 5)).inner (fun cls d _ H => E cls d H) [.bin .Add (.con (.int 1)) (.var 2)]) σ H' Q') H Q := by
  intro N
  refine ⟨_, h3, pD, dx, fs, rfl, hd, hf, [], [], envM many, sto_nil hT, renv_M hl h2, ?_⟩
  have e : evalEs [.bin .Add (.con (.int 1)) (.var 2)] (Cn (n + 5)).inner (envM many) [] = .ok [.int (1 + many)] [] := by
    unfold envM
    simp only [fin_rt, fin_nx, fin_exn, seq_nx, seq_rt, seq_exn, seq_bk, seq_ct, bind_ok, bind_exn, out_ok, out_exn, tst_ok, tst_exn, gc_ok_, gc_exn, gcM_same, asB_bl, selB_t, selB_f, selE_t, selE_f, rdV_some, stT_some, e_var, e_con, e_glo, e_nop, t_bin, t_neg, t_not, t_cmp, t_cmp2, cmp2T_t, cmp2T_f, t_and, t_or, t_if, t_idx, t_tup, t_lst, t_call, t_blt, t_mth, mthT_t, es_nil, ts_cons, b_nil, tb_cons, ts_asg, ts_expr, ts_if, ts_ret, s_rais, seqT_nx, seqT_rt, seqT_exn, seqT_bk, seqT_ct, bindT_ok, bindT_exn, outT_ok, outT_exn, tstT_ok, tstT_exn, asBT_bl, c_eqI, c_neI, c_ltI, c_leI, c_gtI, c_geI, o_addI, o_subI, n_I, abs_N, ix_tup, lift_some, at0, at1, at2, at3, asT_var, asT_tup, asTs_nil, asTs_cons, ctl_call, List.getElem?_cons_zero, List.getElem?_cons_succ, List.set_cons_zero, List.set_cons_succ, List.length_cons, List.length_nil, List.map_cons, List.map_nil, List.cons_append, List.nil_append, List.replicate_succ, List.replicate_zero, Nat.reduceAdd, Nat.reduceSub, Nat.reduceLT, Nat.reduceLeDiff, sz, Option.bind_some, Option.bind_none, Option.map_some, Bool.false_eq_true, if_true, if_false, reduceIte, Nat.zero_add, startE, Bool.not_true, Bool.not_false, decide_true, decide_false]
  rw [e]
  intro ρ' H' E' S' vs r
  obtain rfl : ρ' = [] := List.eq_nil_of_length_eq_zero S'.len
  cases r with
  | cons r1 rr =>
  cases rr
  cases r1
  refine ⟨pD, 1 + many, rfl, S'.tabs, by omega, fun ρ2 H2 E2 T2 => ?_⟩
  exact ⟨"BadDeed", by decide +kernel, rfl, (fun dx z => by cases z), fun L H3 k1 k2 k3 => hQ H2 L H3 (fun b o h nn => E2.keep b o (E'.keep b o h (by simp) nn) (by simp) nn) T2 k1 k2 k3⟩
end
end Dat.K31

/-! Gn31 -/
set_option linter.all false
set_option maxRecDepth 100000
set_option maxHeartbeats 4000000
set_option exponentiation.threshold 10000
/-! Gn31: the law's statements, by hand. -/
namespace Dat.K31
open PySem PySem.Spec L2 PyProof.Rows Dat LamX
theorem forB_eq : forB = [sB 0, sB 1, sB 2] := rfl
def eM : Expr := match sB 0 with
  | .Assign _ (.Tuple (e :: _) _ _) _ => e
  | _ => .Name "" ⟨0, 0, 0, 0⟩
def eD : Expr := match sB 0 with
  | .Assign _ (.Tuple (_ :: e :: _) _ _) _ => e
  | _ => .Name "" ⟨0, 0, 0, 0⟩
theorem ceM : cE 60 cL eM = some irRoll := by rfl
section
variable {X : Cx} {T : List (Addr × Str)} {W : WX} {n : Nat} {fI fD fH : Addr}
theorem locs (G : Good cL (Cn (n + 5)) LL.prog (n + 5) T X W) {x : Str} (h : cL.sc.names.lookup x = some .local ∨ cL.sc.names.lookup x = some .cell) : Loc X.env.scope x := by
  rw [G.sc]
  exact h
theorem nAt (G : Good cL (Cn (n + 5)) LL.prog (n + 5) T X W) (i : Nat) : X.N[i]? = cL.N[i]? := by rw [G.hN]
theorem hA (S : H31 X.prog X.w X.K X.mg X.base T fI fD fH) (G : Good cL (Cn (n + 5)) LL.prog (n + 5) T X W) :
    PS X (sB 0) (tAsg (tTup (tCons (tE X.K T (Cn (n + 5)) W irRoll) (tCons (tMake (CD X.K) (spDI (CD X.K)) [] (fun _ _ _ => False) tNil) tNil))) (gTup X.K 2 (gCons (gName 2) (gCons (gName 3) gNil)))) := by
  obtain ⟨fd, Fd, hb⟩ := S.fd
  have F := ok_DI (P := X.prog) (w := X.w) (mg := X.mg) (base := X.base) Fd S.dc S.n1 S.n2 S.n3
  have hM : PE X eM (tE X.K T (Cn (n + 5)) W irRoll) := ((snd_all 60).1 _ _ _ ceM _ _ _ _ _ _ G).1
  have hD : PE X eD (tMake (CD X.K) (spDI (CD X.K)) [] (fun _ _ _ => False) tNil) := pe_make0 S.dk F (G.room.mono (by omega)) (G.gl (x := "Desk") (by decide +kernel)) S.dg hb .nil (fun _ _ _ _ _ _ _ ⟨_, _, _, _, _, _, _, _, _, _, _, _, z⟩ => z.elim)
  exact ps_asg (pe_tup (pa_cons hM (pa_cons hD pa_nil))) (pg_tup G.calm (pgs_cons (pg_name G.nd (nAt G 2) (locs G (.inr (by decide +kernel))) (.inl (G.fn rfl _))) (pgs_cons (pg_name G.nd (nAt G 3) (locs G (.inr (by decide +kernel))) (.inl (G.fn rfl _))) pgs_nil))) (swap_no (.inl rfl)) (sw_ok G.sc (by rfl))
/-- the lambda number i stands at f -/
def lamAt (X : Cx) (H : Hp) (i : Nat) (f : Addr) : Prop := ∃ c', H f = some (laO X f c' (lamP i) (lamB i) (lamS i)) ∧ H c' = some (CodeO c' (X.env.qual ++ "<lambda>"))
theorem lamAt.ext {H H' : Hp} {i : Nat} {f : Addr} (h : lamAt X H i f) (e : ExtN H H') : lamAt X H' i f := by
  obtain ⟨c', a, b⟩ := h
  exact ⟨c', e _ _ a lamO_nt, e _ _ b codeO_ne⟩
abbrev tL (X : Cx) (T : List (Addr × Str)) (i : Nat) : TE := tLamV T (X.env.qual ++ "<lambda>") (lamP i) (lamB i) (lamS i) (cloFrom X.env.cells (lamS i).names [])
theorem hLam (G : Good cL (Cn (n + 5)) LL.prog (n + 5) T X W) (i : Nat) (hp : plainLam (lamP i) = true) (hs : lamSB cL.sc (lamS i) = true) {pos : Pos} : PE X (.Lambda (lamP i) (lamB i) (lamS i) pos) (tL X T i) := by
  obtain ⟨cc, PP, hcode, TB, hmT, hu⟩ := (G.lam rfl).code
  refine pe_lamV TB hcode hmT hu ?_ (by rw [G.sc]; exact lamS_by hs)
  generalize lamP i = ps at hp
  obtain ⟨_ | _, _ | _, _ | _, _ | _, _ | _, _ | _, _ | _⟩ := ps <;> first | rfl | cases hp
theorem hW (G : Good cL (Cn (n + 5)) LL.prog (n + 5) T X W) : PS X (sB 1) (tAsg (tLst (tCons (tL X T 0) (tCons (tL X T 1) (tCons (tL X T 2) (tCons (tL X T 3) (tCons (tL X T 4) (tCons (tL X T 5) tNil))))))) (gName 4)) := by
  have h := fun (i : Nat) (pos : Pos) (hp : plainLam (lamP i) = true) (hs : lamSB cL.sc (lamS i) = true) => hLam G i hp hs (pos := pos)
  exact ps_set (x := "whats") G.nd (nAt G 4) (locs G (.inl (by decide +kernel))) (pe_lst (pa_cons (h 0 (lamQ 0) (by decide) (by decide)) (pa_cons (h 1 (lamQ 1) (by decide) (by decide)) (pa_cons (h 2 (lamQ 2) (by decide) (by decide)) (pa_cons (h 3 (lamQ 3) (by decide) (by decide)) (pa_cons (h 4 (lamQ 4) (by decide) (by decide)) (pa_cons (h 5 (lamQ 5) (by decide) (by decide)) pa_nil))))))) (by rfl) (.inl (G.fn rfl _))
/-- the six lambdas made -/
theorem lams_go {σ : L2.St} {H : Hp} {Q : List V → Hp → Prop} (hT : LamX.Tabs T H) (hQ : ∀ (f0 f1 f2 f3 f4 f5 : Addr) (H1 : Hp), ExtN H H1 → LamX.Tabs T H1 → lamAt X H1 0 f0 → lamAt X H1 1 f1 → lamAt X H1 2 f2 → lamAt X H1 3 f3 → lamAt X H1 4 f4 → lamAt X H1 5 f5 → Q [.ref f0, .ref f1, .ref f2, .ref f3, .ref f4, .ref f5] H1) : (tCons (tL X T 0) (tCons (tL X T 1) (tCons (tL X T 2) (tCons (tL X T 3) (tCons (tL X T 4) (tCons (tL X T 5) tNil)))))) σ H Q :=
  ⟨hT, fun f0 c0 H1 e1 _ T1 _ a1 b1 => ⟨T1, fun f1 c1 H2 e2 _ T2 _ a2 b2 => ⟨T2, fun f2 c2 H3 e3 _ T3 _ a3 b3 => ⟨T3, fun f3 c3 H4 e4 _ T4 _ a4 b4 => ⟨T4, fun f4 c4 H5 e5 _ T5 _ a5 b5 => ⟨T5, fun f5 c5 H6 e6 _ T6 _ a6 b6 =>
    hQ f0 f1 f2 f3 f4 f5 H6 (e1.trans (e2.trans (e3.trans (e4.trans (e5.trans e6))))) T6 (lamAt.ext ⟨c0, a1, b1⟩ (e2.trans (e3.trans (e4.trans (e5.trans e6))))) (lamAt.ext ⟨c1, a2, b2⟩ (e3.trans (e4.trans (e5.trans e6)))) (lamAt.ext ⟨c2, a3, b3⟩ (e4.trans (e5.trans e6))) (lamAt.ext ⟨c3, a4, b4⟩ (e5.trans e6)) (lamAt.ext ⟨c4, a5, b5⟩ e6) ⟨c5, a6, b6⟩⟩⟩⟩⟩⟩⟩
end
end Dat.K31

/-! On31 -/
set_option linter.all false
set_option maxRecDepth 100000
set_option maxHeartbeats 4000000
set_option exponentiation.threshold 10000
/-! On31: the loop over the six lambdas, by hand. -/
namespace Dat.K31
open PySem PySem.Spec L2 PyProof.Rows Dat LamX
def kTest : Expr := match sB 2 with
  | .For _ _ (.If t _ _ _ :: _) _ _ => t
  | _ => .Name "" ⟨0, 0, 0, 0⟩
def kCall : Expr := match kTest with
  | .Compare e _ _ _ => e
  | _ => .Name "" ⟨0, 0, 0, 0⟩
def kRhs : Expr := match kTest with
  | .Compare _ _ (r :: _) _ => r
  | _ => .Name "" ⟨0, 0, 0, 0⟩
def kArg : Expr := match kCall with
  | .Call _ (a :: _) _ _ => a
  | _ => .Name "" ⟨0, 0, 0, 0⟩
def irRhs : IE := .bin .Add (.comp (.var 6) (.rng1 [.con (.int 6)]) (.con (.bl true)) (.cmp .Eq (.var 6) (.var 5)) [6]) (.lst [.con (.bl true)])
theorem ceR : cE 60 cL kRhs = some irRhs := by rfl
def envK (k : Nat) : EnvD := [none, none, none, none, none, some (.int k), none]
def dueD (k : Nat) : List D := (List.range 6).map (fun j => D.bl (j == k)) ++ [.bl true]
def isRes (r : Res D) (k : Nat) : Bool := match r with
  | .ok (.ref i) m => match m[i]? with
    | some (.lst l) => D.beqL l (dueD k)
    | _ => false
  | _ => false
theorem isRes_of {r : Res D} {k : Nat} (h : isRes r k = true) : ∃ i m, r = .ok (.ref i) m ∧ m[i]? = some (.lst (dueD k)) := by
  unfold isRes at h
  split at h
  · rename_i i m
    split at h
    · rename_i l e
      rw [D.beqL_iff] at h
      subst h
      exact ⟨i, m, rfl, e⟩
    · cases h
  · cases h
theorem ev_rhs (C : Ctl) (k : Nat) (hk : k < 6) : ∃ i m, evalE irRhs C (envK k) [] = .ok (.ref i) m ∧ m[i]? = some (.lst (dueD k)) := by
  refine isRes_of ?_
  match k, hk with
  | 0, _ => kernel_rfl
  | 1, _ => kernel_rfl
  | 2, _ => kernel_rfl
  | 3, _ => kernel_rfl
  | 4, _ => kernel_rfl
  | 5, _ => kernel_rfl
def dueP (k : Nat) : List PyData := (List.range 6).map (fun j => PyData.bool (j == k)) ++ [.bool true]
/-- what the k-th lambda raises -/
def exK (k : Nat) : Str := exN.getD k ""
theorem exK_mem {k : Nat} (hk : k < 6) : exK k ∈ exN := by
  match k, hk with
  | 0, _ => decide +kernel
  | 1, _ => decide +kernel
  | 2, _ => decide +kernel
  | 3, _ => decide +kernel
  | 4, _ => decide +kernel
  | 5, _ => decide +kernel
theorem toldV_eq {k : Nat} (hk : k < 6) : toldV (exK k) = (List.range 6).map (fun j => V.bl (j == k)) ++ [.bl true] := by
  match k, hk with
  | 0, _ => rfl
  | 1, _ => rfl
  | 2, _ => rfl
  | 3, _ => rfl
  | 4, _ => rfl
  | 5, _ => rfl
theorem dp_bls {K : PySem.W.Frag} {H : Hp} : ∀ l : List Bool, DpAll K H (l.map V.bl) (l.map PyData.bool)
  | [] => .nil
  | b :: l => .cons (.bl b) (dp_bls l)
theorem dp_due {K : PySem.W.Frag} {H : Hp} (k : Nat) : DpAll K H ((List.range 6).map (fun j => V.bl (j == k)) ++ [.bl true]) (dueP k) := by
  have h := dp_bls (K := K) (H := H) ((List.range 6).map (fun j => j == k) ++ [true])
  rw [List.map_append, List.map_append, List.map_map, List.map_map] at h
  exact h
theorem rel_due {K : PySem.W.Frag} {ρ : List Addr} {H : Hp} {k : Nat} {vs : List V} (h : RelDs K ρ H (dueD k) vs) : vs = (List.range 6).map (fun j => V.bl (j == k)) ++ [.bl true] := by
  have key : ∀ (l : List Bool) (vs : List V), RelDs K ρ H (l.map D.bl) vs → vs = l.map V.bl := fun l => by
    induction l with
    | nil => intro vs h; cases h; rfl
    | cons b l ih =>
      intro vs h
      cases h with
      | cons r rr =>
        cases r
        rw [ih _ rr]
        rfl
  have h2 := key ((List.range 6).map (fun j => j == k) ++ [true]) vs (by
    rw [List.map_append, List.map_map]
    exact h)
  rw [h2, List.map_append, List.map_map]
  rfl
theorem due_eqv {k : Nat} (hk : k < 6) : PyData.eqv (.list (dueP k)) (.list (dueP k)) = true ∧ SeqAt.shaped (.list (dueP k)) = true := by
  match k, hk with
  | 0, _ => exact ⟨by decide +kernel, by decide +kernel⟩
  | 1, _ => exact ⟨by decide +kernel, by decide +kernel⟩
  | 2, _ => exact ⟨by decide +kernel, by decide +kernel⟩
  | 3, _ => exact ⟨by decide +kernel, by decide +kernel⟩
  | 4, _ => exact ⟨by decide +kernel, by decide +kernel⟩
  | 5, _ => exact ⟨by decide +kernel, by decide +kernel⟩
section
variable {X : Cx} {T : List (Addr × Str)} {W : WX} {n : Nat} {fI fD fH : Addr}
theorem hIt (G : Good cL (Cn (n + 5)) LL.prog (n + 5) T X W) {tg : Expr} {p1 p2 p3 p4 p5 : Pos} : PI X tg (.Call (.Name "range" p1) [.Call (.Name "len" p2) [.Name "whats" p3] [] p4] [] p5) (iRng1 (tCons (tCB (fun xs H Q => ∃ x n, xs = [x] ∧ LenV X.K x H n ∧ Q (.int n) H) (tCons (tVar 4) tNil)) tNil)) :=
  pi_range1 (G.gl (by decide +kernel)) (G.blt _ (by decide +kernel)) (pa_cons (pe_callB call_len (G.gl (by decide +kernel)) (G.blt _ (by decide +kernel)) (by decide +kernel) (pa_cons (pe_var (i := 4) (by rw [G.hN]; rfl) (.inl (by rw [G.sc]; decide +kernel))) pa_nil)) pa_nil)
theorem hArg (G : Good cL (Cn (n + 5)) LL.prog (n + 5) T X W) {p1 p2 p3 : Pos} : PE X (.Subscript (.Name "whats" p1) (.Name "k" p2) p3) (tOp (rIxL X.K) (tVar 4) (tVar 5)) :=
  pe_ix ix_list (pe_var (i := 4) (by rw [G.hN]; rfl) (.inl (by rw [G.sc]; decide +kernel))) (pe_var (i := 5) (by rw [G.hN]; rfl) (.inr (.inl (by rw [G.sc]; decide +kernel)))) (fun _ _ => rfl)
theorem hCall (S : H31 X.prog X.w X.K X.mg X.base T fI fD fH) (G : Good cL (Cn (n + 5)) LL.prog (n + 5) T X W) {p1 p2 p3 p4 p5 : Pos} : PE X (.Call (.Name "_law_told" p1) [.Subscript (.Name "whats" p2) (.Name "k" p3) p4] [] p5) (tToldV X (n + 3) (TT31 X.K) (tOp (rIxL X.K) (tVar 4) (tVar 5))) := by
  have hm : d__law_told ∈ LL.defs := List.mem_of_getElem? (i := 48) rfl
  obtain ⟨fd, Fd⟩ := S.F.fund d__law_told hm
  have B := Fd.bindsN (allB.at_ d__law_told hm)
  obtain ⟨oc, od, dV, kV, doc, pm, an, cdv, ct, osl, rfl, lk, hcd, hdv, hkv⟩ := Fd.ex
  exact pe_toldV (X := X) (Ng := N66) (a := "what") (TT := TT31 X.K) (G.gl (by decide +kernel)) (S.F.glo d__law_told hm) Fd.kp lk hcd B ⟨rfl, rfl, rfl, nd66, rfl, by decide +kernel, by decide +kernel⟩ rfl (.inl (by decide +kernel)) (told31 S.X) G.room (hArg G) rfl
theorem hTest (S : H31 X.prog X.w X.K X.mg X.base T fI fD fH) (G : Good cL (Cn (n + 5)) LL.prog (n + 5) T X W) : PT X kTest (tTest (tOp (rNeD X.K) (tToldV X (n + 3) (TT31 X.K) (tOp (rIxL X.K) (tVar 4) (tVar 5))) (tE X.K T (Cn (n + 5)) W irRhs))) :=
  pt_cmpR (op_neD G.u64) (hCall S G) ((snd_all 60).1 _ _ _ ceR _ _ _ _ _ _ G).1 rfl
end
end Dat.K31

/-! Pn31 -/
set_option linter.all false
set_option maxRecDepth 100000
set_option maxHeartbeats 4000000
set_option exponentiation.threshold 10000
/-! Pn31: the loop over the lambdas and the body of the law. -/
namespace Dat.K31
open PySem PySem.Spec L2 PyProof.Rows Dat LamX
theorem bind_lam {q : Str} {ps : Arguments} {body : Expr} {scope : Scope} {cl : List (Str × Addr)} (hp : plainLam ps = true) : ∀ (pm cv ctv : Value), bindArgs (PySem.W.kla_fn "<lambda>" q ps body scope cl pm cv ctv) ⟨[], []⟩ = pure [] := by
  obtain ⟨_ | _, _ | _, _ | _, _ | _, _ | _, _ | _, _ | _⟩ := ps <;> first | (intros; rfl) | cases hp
section
variable {X : Cx} {T : List (Addr × Str)} {W : WX} {n : Nat} {fI fD fH : Addr}
/-- what stands in the loop over k -/
structure St31 (X : Cx) (T : List (Addr × Str)) (ρ : List Addr) (m : Mem) (env : EnvD) (many : Int) (pD dx w : Addr) (fs : List (Str × V)) (f : Nat → Addr) (σ : L2.St) (H : Hp) : Prop where
  S : Sto X.K T ρ H m
  R : REnv X.K ρ H env σ
  l : σ.length = 7
  s2 : σ[2]? = some (some (.int many))
  s3 : σ[3]? = some (some (.ref pD))
  s4 : σ[4]? = some (some (.ref w))
  hD : H pD = some (.ins (CD X.K) dx fs)
  hw : H w = some (.lst [.ref (f 0), .ref (f 1), .ref (f 2), .ref (f 3), .ref (f 4), .ref (f 5)])
  la : ∀ i, i < 6 → lamAt X H i (f i)
theorem St31.grow {ρ : List Addr} {m : Mem} {env : EnvD} {many : Int} {pD dx w : Addr} {fs : List (Str × V)} {f : Nat → Addr} {σ : L2.St} {H H' : Hp} (Z : St31 X T ρ m env many pD dx w fs f σ H) (e : ExtN H H') (t : Tabs T H') : St31 X T ρ m env many pD dx w fs f σ H' := by
  obtain ⟨E, S'⟩ := Z.S.grown e t
  exact ⟨S', Z.R.mono Z.S E, Z.l, Z.s2, Z.s3, Z.s4, e _ _ Z.hD (fun _ z => nomatch z), e _ _ Z.hw (fun _ z => nomatch z), fun i hi => (Z.la i hi).ext e⟩
/-- a name that the small language does not know gets a value -/
theorem renv_set {K : PySem.W.Frag} {ρ : List Addr} {H : Hp} {env : EnvD} {σ : L2.St} (R : REnv K ρ H env σ) {i : Nat} (hi : env[i]? = some none) (v : V) : REnv K ρ H env (σ.set i (some v)) := by
  refine ⟨by rw [List.length_set]; exact R.1, fun j d h => ?_⟩
  have ne : i ≠ j := fun z => by
    rw [z, h] at hi
    cases hi
  obtain ⟨u, h1, r⟩ := R.2 j d h
  exact ⟨u, by rw [List.getElem?_set_ne ne]; exact h1, r⟩
theorem St31.setK {ρ : List Addr} {m : Mem} {env : EnvD} {many : Int} {pD dx w : Addr} {fs : List (Str × V)} {f : Nat → Addr} {σ : L2.St} {H : Hp} (Z : St31 X T ρ m env many pD dx w fs f σ H) (h5 : env[5]? = some none) (v : V) : St31 X T ρ m env many pD dx w fs f (σ.set 5 (some v)) H :=
  ⟨Z.S, renv_set Z.R h5 v, by rw [List.length_set]; exact Z.l, by rw [List.getElem?_set_ne (by decide)]; exact Z.s2, by rw [List.getElem?_set_ne (by decide)]; exact Z.s3, by rw [List.getElem?_set_ne (by decide)]; exact Z.s4, Z.hD, Z.hw, Z.la⟩
/-- the test at one lambda -/
theorem test_at (S : H31 X.prog X.w X.K X.mg X.base T fI fD fH) (G : Good cL (Cn (n + 5)) LL.prog (n + 5) T X W) {k : Nat} (hk : k < 6) {w f : Addr} {xs : List V} {σ : L2.St} {H : Hp} (hT : Tabs T H) (hl : σ.length = 7) (h4 : σ[4]? = some (some (.ref w))) (h5 : σ[5]? = some (some (.int k))) (hw : H w = some (.lst xs)) (hat : atI xs (k : Int) = some (.ref f))
    (la : lamAt X H k f) (hp : plainLam (lamP k) = true) (hs : lamSB cL.sc (lamS k) = true) {t : XK → TE}
    (hb : ∀ (A : Around) (outer : List Env) (s : Shared) (H : Hp) (E : XK) (f c' : Addr), Room (n + 5 - 2) (A.deeper (lamEnv X (lamS k) s.heap.objs.size f c')) → PE (lamCx X A outer s H E (lamS k) f c') (lamB k) (t E))
    (ht : ∀ Q, QOK X.K T (exK k) H Q → TT31 X.K (fun E H' Q' => t E σ H' Q') H Q) {Q : Bool → Hp → Prop} (hQ : ∀ H', ExtN H H' → Tabs T H' → Q false H') :
    (tTest (tOp (rNeD X.K) (tToldV X (n + 3) (TT31 X.K) (tOp (rIxL X.K) (tVar 4) (tVar 5))) (tE X.K T (Cn (n + 5)) W irRhs))) σ H Q := by
  obtain ⟨c', fo, co⟩ := la
  refine ⟨.ref w, h4, .int k, h5, w, xs, k, .ref f, rfl, rfl, SqL.of hw, hat, f, c', lamP k, lamB k, lamS k, t, rfl, ⟨fo, co, by rw [G.sc]; exact lamS_by hs, fun pm ctv => bind_lam hp pm _ ctv, fun A outer s H E hr => hb A outer s H E f c' hr⟩, ht _ ?_⟩
  intro H1 L H2 k1 T1 k2 n1 hL
  have T2 : Tabs T H2 := T1.ext k2
  have e2 : ExtN H H2 := fun b o h nt => k2 b o (k1 b o h nt)
  refine ⟨[], [], envK k, sto_nil T2, ⟨by rw [hl]; rfl, fun i d h => ?_⟩, ?_⟩
  · match i, h with
    | 0, h => cases h
    | 1, h => cases h
    | 2, h => cases h
    | 3, h => cases h
    | 4, h => cases h
    | 5, h => cases h; exact ⟨_, h5, .int _⟩
    | 6, h => cases h
    | i + 7, h => simp [envK] at h
  · obtain ⟨i, m, e, hm⟩ := ev_rhs (Cn (n + 5)) k hk
    rw [e]
    intro ρ3 H3 E3 S3 v rv
    obtain ⟨b, eb, vs, h1, r1⟩ : ∃ b, v = .ref b ∧ ∃ vs, H3 b = some (.lst vs) ∧ RelDs X.K ρ3 H3 (dueD k) vs := by
      cases rv with
      | ref ea =>
        obtain ⟨vs, h1, r1⟩ := lst_at S3 ea hm
        exact ⟨_, rfl, vs, h1, r1⟩
    subst eb
    have e3 : ExtN H2 H3 := fun b o h nt => E3.keep b o h (by simp) nt
    have hv := rel_due r1
    subst hv
    refine ⟨.list (dueP k), .list (dueP k), .lst (SqL.of (e3 _ _ hL (fun _ z => nomatch z))) (by rw [toldV_eq hk]; exact dp_due k), .lst (SqL.of h1) (dp_due k), (due_eqv hk).2, (due_eqv hk).2, ?_⟩
    rw [(due_eqv hk).1]
    exact ⟨false, rfl, hQ H3 (e2.trans e3) S3.tabs⟩
/-- .. at each of the six -/
theorem test_ok (S : H31 X.prog X.w X.K X.mg X.base T fI fD fH) (G : Good cL (Cn (n + 5)) LL.prog (n + 5) T X W) {ρ : List Addr} {m : Mem} {env : EnvD} {many : Int} {pD dx w : Addr} {fs : List (Str × V)} {f : Nat → Addr} {σ : L2.St} {H : Hp} (Z : St31 X T ρ m env many pD dx w fs f σ H) (hm : 1 ≤ many) (hf : fs.lookup ("half" : Str) = none) {k : Nat} (hk : k < 6) (h5 : σ[5]? = some (some (.int k))) {Q : Bool → Hp → Prop} (hQ : ∀ H', ExtN H H' → Tabs T H' → Q false H') :
    (tTest (tOp (rNeD X.K) (tToldV X (n + 3) (TT31 X.K) (tOp (rIxL X.K) (tVar 4) (tVar 5))) (tE X.K T (Cn (n + 5)) W irRhs))) σ H Q := by
  have hT := Z.S.tabs
  have RM : REnv X.K [] H (envM many) σ := renv_M Z.l Z.s2
  match k, hk, h5 with
  | 0, hk, h5 => exact test_at S G hk hT Z.l Z.s4 h5 Z.hw rfl (Z.la 0 (by decide)) (by decide) (by decide) (fun A outer s H E f c' hr => lam_pe G cL0 A outer s H E f c' hr) (fun Q q => tt_pe (by decide +kernel) (ev_0 many) hT RM q) hQ
  | 1, hk, h5 => exact test_at S G hk hT Z.l Z.s4 h5 Z.hw rfl (Z.la 1 (by decide)) (by decide) (by decide) (fun A outer s H E f c' hr => lam_pe G cL1 A outer s H E f c' hr) (fun Q q => tt_pe (by decide +kernel) (ev_1 many) hT RM q) hQ
  | 2, hk, h5 => exact test_at S G hk hT Z.l Z.s4 h5 Z.hw rfl (Z.la 2 (by decide)) (by decide) (by decide) (fun A outer s H E f c' hr => lam2_pe S G A outer s H E f c' hr) (fun Q q => tt_2 hm hT Z.l Z.s2 q) hQ
  | 3, hk, h5 => exact test_at S G hk hT Z.l Z.s4 h5 Z.hw rfl (Z.la 3 (by decide)) (by decide) (by decide) (fun A outer s H E f c' hr => lam_pe G cL3 A outer s H E f c' hr) (fun Q q => tt_pe (by decide +kernel) (ev_3 many) hT RM q) hQ
  | 4, hk, h5 => exact test_at S G hk hT Z.l Z.s4 h5 Z.hw rfl (Z.la 4 (by decide)) (by decide) (by decide) (fun A outer s H E f c' hr => lam_pe G cL4 A outer s H E f c' hr) (fun Q q => tt_pe (by decide +kernel) (ev_4 many) hT RM q) hQ
  | 5, hk, h5 => exact test_at S G hk hT Z.l Z.s4 h5 Z.hw rfl (Z.la 5 (by decide)) (by decide) (by decide) (fun A outer s H E f c' hr => lam5_pe S G A outer s H E f c' hr) (fun Q q => tt_5 hm hT Z.l Z.s2 Z.s3 Z.hD hf q) hQ
/-- the loop -/
abbrev tK (X : Cx) (T : List (Addr × Str)) (W : WX) (n : Nat) : TS := tFor (iRng1 (tCons (tCB (fun xs H Q => ∃ x n, xs = [x] ∧ LenV X.K x H n ∧ Q (.int n) H) (tCons (tVar 4) tNil)) tNil)) (gName 5)
  (tIfS (tTest (tOp (rNeD X.K) (tToldV X (n + 3) (TT31 X.K) (tOp (rIxL X.K) (tVar 4) (tVar 5))) (tE X.K T (Cn (n + 5)) W irRhs))) (tRet (tC (.bl false))) (fun D σ H => D.nx σ H))
theorem hK (S : H31 X.prog X.w X.K X.mg X.base T fI fD fH) (G : Good cL (Cn (n + 5)) LL.prog (n + 5) T X W) : PS X (sB 2) (tK X T W n) :=
  ps_for G.po G.calm (hIt G) (pg_name G.nd (nAt G 5) (locs G (.inr (by decide +kernel))) (.inl (G.fn rfl _))) (pss_one (ps_if (hTest S G) (pss_one (ps_ret pe_bl)) pss_nil))
theorem k_go (S : H31 X.prog X.w X.K X.mg X.base T fI fD fH) (G : Good cL (Cn (n + 5)) LL.prog (n + 5) T X W) {ρ : List Addr} {m : Mem} {env : EnvD} {many : Int} {pD dx w : Addr} {fs : List (Str × V)} {f : Nat → Addr} {σ : L2.St} {H : Hp} (Z : St31 X T ρ m env many pD dx w fs f σ H) (hm : 1 ≤ many) (hf : fs.lookup ("half" : Str) = none) (h5 : env[5]? = some none) {D : Ends}
    (hD : ∀ σ' H', ExtN H H' → St31 X T ρ m env many pD dx w fs f σ' H' → D.nx σ' H') : tK X T W n D σ H := by
  refine ⟨.ref w, Z.s4, .ref w, 6, rfl, .inl ⟨_, SqL.of Z.hw, rfl⟩, 6, rfl, by decide, by decide, ?_⟩
  refine ⟨fun i k σ' H' => k = 6 - i ∧ i ≤ 6 ∧ ExtN H H' ∧ St31 X T ρ m env many pD dx w fs f σ' H', ⟨6, rfl, by decide, ExtN.refl H, Z⟩, ?_⟩
  rintro i k σ' H' ⟨rfl, hi, e, Z'⟩
  by_cases h6 : i < 6
  · refine .inr ⟨h6, fun σ2 H2 => ExtN H H2 ∧ St31 X T ρ m env many pD dx w fs f σ2 H2, fun σ2 H2 ⟨z1, z2⟩ => ⟨6 - (i + 1), by omega, rfl, h6, z1, z2⟩, ?_⟩
    rintro x H2 ⟨rfl, rfl⟩
    have Z2 := Z'.setK h5 (.int (0 + (i : Int)))
    have s5 : (σ'.set 5 (some (V.int (0 + (i : Int)))))[5]? = some (some (.int (i : Int))) := by
      rw [List.getElem?_set_self (by rw [Z'.l]; decide), Int.zero_add]
    exact test_ok S G Z2 hm hf h6 s5 fun H3 e3 t3 => by
      rw [if_neg (by decide)]
      exact ⟨e.trans e3, Z2.grow e3 t3⟩
  · refine .inl ⟨by show 6 ≤ i; omega, hD σ' H' e Z'⟩
end
end Dat.K31

/-! Qn31 -/
set_option linter.all false
set_option maxRecDepth 100000
set_option maxHeartbeats 4000000
set_option exponentiation.threshold 10000
/-! Qn31: the body of the law, by hand. -/
namespace Dat.K31
open PySem PySem.Spec L2 PyProof.Rows Dat LamX
theorem renv_wipe {K : PySem.W.Frag} {ρ : List Addr} {H : Hp} {env : EnvD} {σ : L2.St} (R : REnv K ρ H env σ) (vs : List Nat) : REnv K ρ H (wipeE env vs) σ := by
  have key : ∀ (vs : List Nat), (wipeE env vs).length = env.length ∧ ∀ (i : Nat) (d : D), (wipeE env vs)[i]? = some (some d) → env[i]? = some (some d) := fun vs => by
    induction vs with
    | nil => exact ⟨rfl, fun _ _ h => h⟩
    | cons v vs ih =>
      refine ⟨by unfold wipeE; rw [List.length_set]; exact ih.1, fun i d h => ?_⟩
      unfold wipeE at h
      by_cases e : v = i
      · subst e
        by_cases hl : v < (wipeE env vs).length
        · rw [List.getElem?_set_self hl] at h
          cases h
        · rw [List.getElem?_eq_none (by rw [List.length_set]; omega)] at h
          cases h
      · rw [List.getElem?_set_ne e] at h
        exact ih.2 i d h
  exact ⟨(key vs).1.trans R.1, fun i d h => R.2 i d ((key vs).2 i d h)⟩
abbrev env0 (x0 x1 x2 : Option D) : EnvD := [x0, x1, x2, none, none, none, none]
/-- what the body's short form computes -/
theorem body_ev {n : Nat} {x0 x1 x2 x3 x4 x5 x6 : Option D} {m : Mem} : evalB (Cn (n + 5)) irBody [x0, x1, x2, x3, x4, x5, x6] m = ((evalE irRoll (Cn (n + 5)) (env0 x0 x1 x2) m).gc m.length).out (env0 x0 x1 x2) fun d m1 => match d with
    | .int i => if 1 ≤ i then .nx (env0 x0 x1 (some (.int i))) m1 else .stuck
    | _ => .stuck := by
  have ew : wipeE [x0, x1, x2, x3, x4, x5, x6] [3, 4, 5, 6] = env0 x0 x1 x2 := rfl
  have g1 : gcM m.length .non m = m := gcM_same
  unfold irBody
  simp only [evalB, evalS, ew, Out.seq, deep_ok, Res.bind, Res.gc, Res.out, g1]
  cases e : evalE irRoll (Cn (n + 5)) (env0 x0 x1 x2) m with
  | stuck => rfl
  | exn c p m1 => rfl
  | ok d m1 =>
    simp only [Res.gc, Res.out, asgT, env0, List.length_cons, List.length_nil, List.set_cons_succ, List.set_cons_zero]
    rw [if_pos (by decide)]
    simp only [Out.seq, tstO, evalE]
    generalize gcM m.length d m1 = m2
    have g2 : ∀ d : D, gcM m2.length (.bl true) m2 = m2 := fun _ => gcM_same
    cases d with
    | int i =>
      by_cases h : 1 ≤ i
      · simp only [List.getElem?_cons_succ, List.getElem?_cons_zero, Res.bind, cmpD, cmpI, liftO, Option.map_some, h, decide_true, Res.gc, Res.out, if_true, evalB, g2 (.bl true), Out.seq]
      · simp [List.getElem?_cons_succ, List.getElem?_cons_zero, Res.bind, cmpD, cmpI, liftO, h, Res.gc, Res.out, evalB, Out.seq, evalS, evalE]
    | _ => rfl
section
variable {X : Cx} {T : List (Addr × Str)} {W : WX} {n : Nat} {fI fD fH : Addr}
theorem body_pss (S : H31 X.prog X.w X.K X.mg X.base T fI fD fH) (G : Good cL (Cn (n + 5)) LL.prog (n + 5) T X W) : PSs X forB (tB X.K T (Cn (n + 5)) W irBody) := by
  refine ⟨fun pins s σ H D I h => ?_⟩
  have hl : σ.length = 7 := by rw [I.len, G.hN]; rfl
  rw [forB_eq]
  refine (pss_cons (hA S G) (pss_cons (hW G) (pss_one (hK S G)))).run pins s σ H D I ?_
  obtain ⟨ρ, m, env, S0, R0, q⟩ := h
  have hle : env.length = 7 := R0.1.trans hl
  obtain ⟨x0, x1, x2, x3, x4, x5, x6, rfl⟩ : ∃ x0 x1 x2 x3 x4 x5 x6, env = [x0, x1, x2, x3, x4, x5, x6] := by
    match env, hle with
    | [x0, x1, x2, x3, x4, x5, x6], _ => exact ⟨_, _, _, _, _, _, _, rfl⟩
  have R1 : REnv X.K ρ H (env0 x0 x1 x2) σ := renv_wipe R0 [3, 4, 5, 6]
  rw [body_ev] at q
  refine ⟨ρ, m, env0 x0 x1 x2, S0, R1, (q.outgc S0 R1).imp (fun d m1 ρ1 H1 E1 S1 q1 v r => ?_) fun _ _ _ _ _ _ _ z => z⟩
  obtain ⟨ρ2, m2, E2, S2, R2, r2, q2⟩ := q1 v r
  cases d with
  | int i =>
    simp only at q2
    split at q2
    case isFalse => exact (show False from q2).elim
    rename_i hi
    cases r2
    intro p dx np nd hne
    have e1 : ∀ b o, H1 b = some o → upd (upd H1 dx (.own p)) p (.ins (CD X.K) dx []) b = some o := fun b o h => by
      rw [upd_ne (ne_of_none h np), upd_ne (ne_of_none h nd)]
      exact h
    refine ⟨p, dx, rfl, upd_same, fun H3 fs k3 hp hf => ⟨rfl, by show 2 ≤ sizeLine; decide, fun q nq => ⟨q, _, rfl, .inl (.inl upd_same), rfl, _, _, rfl, _, _, rfl, rfl, ?_⟩⟩⟩
    have e3 : ∀ b o, H1 b = some o → H3 b = some o := fun b o h => k3 b o (e1 b o h) (ne_of_none h np)
    have e4 : ∀ b o, H3 b = some o → upd H3 q (.tup [.int i, .ref p]) b = some o := fun b o h => (upd_ne (ne_of_none h nq)).trans h
    have e5 : ∀ b o, H1 b = some o → upd H3 q (.tup [.int i, .ref p]) b = some o := fun b o h => e4 b o (e3 b o h)
    obtain ⟨E5, S5⟩ := S2.grown (ExtN.of e5) (S2.tabs.ext e5)
    generalize hH5 : upd H3 q (.tup [.int i, .ref p]) = H5 at *
    have hp5 : H5 p = some (.ins (CD X.K) dx fs) := e4 _ _ hp
    refine lams_go (σ := (σ.set 2 (some (.int i))).set 3 (some (.ref p))) (H := H5) (X := X) (Q := fun xs H1 => xs.length ≤ sizeLine ∧ ∀ w, H1 w = none → tK X T W n D (((σ.set 2 (some (.int i))).set 3 (some (.ref p))).set 4 (some (.ref w))) (upd H1 w (.lst xs))) S5.tabs fun f0 f1 f2 f3 f4 f5 H6 e6 t6 a0 a1 a2 a3 a4 a5 => ⟨by show 6 ≤ sizeLine; decide, fun w nw => ?_⟩
    have e7 : ∀ b o, H6 b = some o → upd H6 w (.lst [.ref f0, .ref f1, .ref f2, .ref f3, .ref f4, .ref f5]) b = some o := fun b o h => (upd_ne (ne_of_none h nw)).trans h
    obtain ⟨E7, S7⟩ := S5.grown (e6.trans (ExtN.of e7)) (t6.ext e7)
    have R7 := (R2.mono S2 E5).mono S5 E7
    have R8 : REnv X.K ρ2 (upd H6 w (.lst [.ref f0, .ref f1, .ref f2, .ref f3, .ref f4, .ref f5])) (env0 x0 x1 (some (.int i))) (((σ.set 2 (some (.int i))).set 3 (some (.ref p))).set 4 (some (.ref w))) :=
      renv_set (renv_set (R7.set (i := 2) (.int i)) rfl _) rfl _
    have Z : St31 X T ρ2 m2 (env0 x0 x1 (some (.int i))) i p dx w fs (fun j => match j with | 0 => f0 | 1 => f1 | 2 => f2 | 3 => f3 | 4 => f4 | _ => f5) (((σ.set 2 (some (.int i))).set 3 (some (.ref p))).set 4 (some (.ref w))) (upd H6 w (.lst [.ref f0, .ref f1, .ref f2, .ref f3, .ref f4, .ref f5])) := {
      S := S7
      R := R8
      l := by simp [hl]
      s2 := by rw [List.getElem?_set_ne (by decide), List.getElem?_set_ne (by decide), List.getElem?_set_self (by omega)]
      s3 := by rw [List.getElem?_set_ne (by decide), List.getElem?_set_self (by simp [hl])]
      s4 := by rw [List.getElem?_set_self (by simp [hl])]
      hD := (e6.trans (ExtN.of e7)) _ _ hp5 (fun _ z => nomatch z)
      hw := upd_same
      la := fun j hj => by
        match j, hj with
        | 0, _ => exact a0.ext (ExtN.of e7)
        | 1, _ => exact a1.ext (ExtN.of e7)
        | 2, _ => exact a2.ext (ExtN.of e7)
        | 3, _ => exact a3.ext (ExtN.of e7)
        | 4, _ => exact a4.ext (ExtN.of e7)
        | 5, _ => exact a5.ext (ExtN.of e7) }
    refine k_go S G Z hi hf rfl fun σ' H' e9 Z9 => ?_
    have e59 : ExtN H1 H' := (ExtN.of e5).trans ((e6.trans (ExtN.of e7)).trans e9)
    exact q2 ρ2 H' σ' (S2.grown e59 Z9.S.tabs).1 Z9.S Z9.R
  | _ => exact (show False from q2).elim
end
/-- the body at any level -/
theorem body_no {n : Nat} (h : n ≤ 4) (env : EnvD) (m : Mem) : evalB (Cn n) irBody env m = .stuck := by
  unfold irBody
  simp only [evalB, evalS, Out.seq, deep_no n h, Res.bind, Res.out]
theorem body_any {X : Cx} {T : List (Addr × Str)} {W : WX} {fI fD fH : Addr} (n : Nat) (S : H31 X.prog X.w X.K X.mg X.base T fI fD fH) (G : Good cL (Cn n) LL.prog n T X W) : OkB X T (Cn n) W forB irBody := by
  by_cases h : n ≤ 4
  · refine ⟨fun pins s σ H D I ⟨ρ, m, env, S0, R0, q⟩ => ?_⟩
    rw [body_no h] at q
    exact (show False from q).elim
  · obtain ⟨k, rfl⟩ : ∃ k, n = k + 5 := ⟨n - 5, by omega⟩
    exact body_pss S G
def itL : Expr := match defBody sLaw with
  | .For _ i _ _ _ :: _ => i
  | _ => .Name "" ⟨0, 0, 0, 0⟩
def tgL : Expr := match defBody sLaw with
  | .For t _ _ _ _ :: _ => t
  | _ => .Name "" ⟨0, 0, 0, 0⟩
theorem ciL : cI 60 cL tgL itL = some (.seq (.call 47 [(.var 0), (.con (.int 3))])) := by rfl
theorem ctL : cTg cL 60 tgL = some (.var 1) := by rfl
theorem hand_law {X : Cx} {T : List (Addr × Str)} {W : WX} {fI fD fH : Addr} (n : Nat) (S : H31 X.prog X.w X.K X.mg X.base T fI fD fH) (G : Good cL (Cn n) LL.prog n T X W) : OkB X T (Cn n) W (defBody sLaw) ir_law :=
  okb_cons (oks_for G rfl ((snd_all 60).2.2.2 _ _ _ _ ciL _ _ _ _ _ _ G) (ok_tg G _ _ _ ctL) (body_any n S G)) (okb_cons ((snd_SB 60).1 _ _ _ (show cS 60 cL ((defBody sLaw).getD 1 (.Pass ⟨0, 0, 0, 0⟩)) = some (.ret (.con (.bl true))) by rfl) _ _ _ _ _ _ G rfl) okb_nil)
end Dat.K31

/-! Rn31 -/
set_option linter.all false
set_option maxRecDepth 100000
set_option maxHeartbeats 4000000
set_option exponentiation.threshold 10000
/-! Rn31: what the head tells of the classes. -/
namespace Dat.K31
open PySem PySem.Spec L2 PyProof.Rows Dat LamX
abbrev sBp : Stmt := inClass (top 5) 0
abbrev PR : Program := PySem.Challenge.rw_realhall_k31_refusals_apart.prog
/-- a class over ValueError, as it stands -/
def oexB (K : PySem.W.Frag) (C : Addr) : Bool := (match K.lookup C with
  | some ⟨.type t, _, .cls cd, sl⟩ => t == "type" && (match cd.mro, sl.toList with
    | .ref C' :: bm, [_, _, _, _, some (.builtin n), _] => C' == C && (n == "ValueError.__new__" && (!cd.hasDel && (cd.hasDict && PySem.HandSPX.refsVE bm)))
    | _, _ => false)
  | _ => false) && (He.eqO (PySem.W.findIn K (.ref C) "__setattr__") (some (some (.builtin "object.__setattr__"))) && (decide (PySem.W.subIn K (.ref C) (.type "BaseException") = some true) && (decide (PySem.W.typeIn K (.ref C) = some (.type "type")) && PySem.W.keepIn K (.ref C))))
def excB (K : PySem.W.Frag) (D : Addr) : Bool := He.eqO (PySem.W.findIn K (.ref D) "__getattribute__") (some (some (.builtin "BaseException.__getattribute__"))) && (He.eqO (PySem.W.findIn K (.ref D) "__getattr__") (some none) && (decide (PySem.W.subIn K (.ref D) (.type "BaseException") = some true) && (PySem.W.hasDictIn K D &&
  (He.eqO (PySem.W.findIn K (.ref D) "__class__") (some (some (.builtin "object.__class__"))) && (He.eqO (PySem.W.specialIn K (.builtin "object.__class__") "__get__") (some (some (.builtin "getset_descriptor.__get__"))) && (decide (PySem.W.takesIn K (.builtin "object.__class__") = some true) && decide (PySem.W.mroIn K D (.type "object") = some true)))))))
abbrev fBp (K : PySem.W.Frag) : Addr := He.fAd K ("BadPaper", some "__init__")
/-- BadPaper's __init__: its code, its cell -/
def initB (K : PySem.W.Frag) : Bool := match K.lookup (fBp K) with
  | some ⟨_, _, .func fd, _⟩ => (match fd.code, fd.closure with
    | .ref cda, [(_, cc)] => PySem.W.codeIn K (.ref cda) "BadPaper.__init__" && ((match K.lookup cda with
        | some ⟨_, _, .fields vs, _⟩ => (match (vs[2]? : Option Value) with
          | some (.str file _) => (PR.main.file : Str) == file
          | _ => false)
        | _ => false) && (match K.lookup cc with
        | some ⟨_, _, .cell (some (.ref C)), _⟩ => C == He.ga K "BadPaper"
        | _ => false))
    | _, _ => false)
  | _ => false
def bpB (K : PySem.W.Frag) : Bool := oexB K (He.ga K "BadPaper") && (He.eqO (PySem.W.findIn K (.ref (He.ga K "BadPaper")) "__init__") (some (some (.ref (fBp K)))) && (decide (PySem.W.typeIn K (.ref (fBp K)) = some (.type "function")) && (initB K &&
  (decide (PySem.W.mroIn K (He.ga K "BadPaper") (.ref (He.ga K "BadPaper")) = some true) && (He.eqO (PySem.W.ks_superIn K (He.ga K "BadPaper") (He.ga K "BadPaper") "__init__") (some (some (.builtin "ValueError.__init__"))) && (decide (PySem.W.subIn K (.ref (He.ga K "BadPaper")) (.type "ValueError") = some true) &&
  (He.eqO (PySem.W.nsIn K cStatics "thirdparty.any") (some none) && He.eqO (PySem.W.findIn K (.ref (He.ga K "BadPaper")) "part") (some none))))))))
def kitB (K : PySem.W.Frag) : Bool := exN.all fun x => (exN.all fun y => decide (PySem.W.kitOne K (.ref (He.ga K x)) (.ref (He.ga K y)) = some (x == y))) && (decide (PySem.W.kitOne K (.ref (He.ga K x)) (.type "ValueError") = some true) && (excB K (He.ga K x) && decide (PySem.W.exmOne K (.ref (He.ga K x)) (.ref (He.ga K "RealFault")) = some true)))
def ex31 (K : PySem.W.Frag) : Bool := LL.exB K && (bpB K && kitB K)
def fa31 : List He.Fa := LL.fa ++ ([.cls "Desk", .mkr "Desk", .meth "Desk" "half", .noat "Desk" "state", .noat "Desk" "deeds", .noat "Desk" "undone", .glo "Desk", .glo "RealFault", .free "ValueError", .free "super"] ++ exN.map He.Fa.glo)
def dDI : He.DefD := ⟨("Desk", some "__init__"), "__init__", "Desk.__init__", defArgs sDI, defBody sDI, defScope sDI, [], []⟩
def dDH : He.DefD := ⟨("Desk", some "half"), "half", "Desk.half", defArgs sDH, defBody sDH, defScope sDH, [], []⟩
def fn31 : List He.DefD := LL.fn ++ [dDI, dDH]
abbrev FnC : Type := Option (Str × Str × Arguments × FuncBody × Scope × Addr × List Str × Addr × Value)
def fnC (K : PySem.W.Frag) : FnC := match K.lookup (fBp K) with
  | some ⟨_, _, .func fd, _⟩ => some (fd.name, fd.qualname, fd.params, fd.body, fd.scope, fd.globals, fd.closure.map (·.1), fd.builtins, fd.defaults)
  | _ => none
def valC : FnC := some ("__init__", "BadPaper.__init__", defArgs sBp, .stmts (defBody sBp), defScope sBp, mainGlobals, ["__class__"], builtinsNs, .none)
/-- the places that are read: those of the head's reach, and the statics -/
def as31 (g : Addr → Option Obj) : List Addr := He.asD g 5 ++ [cStatics]
def obs31 (g : Addr → Option Obj) : He.AlX × FnC := ((He.obsT fa31 fn31 [] (He.frT g (as31 g)), ex31 (He.frT g (as31 g)) && He.tabsB g LL.tf (He.frT g (as31 g))), fnC (He.frT g (as31 g)))
theorem says31 {w : World} {h : Heap} (e : obs31 h.get? = (He.valX fn31 [] w, valC)) : He.SaysX fa31 fn31 [] LL.tf ex31 w h (He.frT h.get? (as31 h.get?)) ∧ fnC (He.frT h.get? (as31 h.get?)) = valC := by
  have e1 : He.obsT fa31 fn31 [] (He.frT h.get? (as31 h.get?)) = He.valT fn31 [] w := congrArg (fun z : He.AlX × FnC => z.1.1) e
  have e2 : (ex31 (He.frT h.get? (as31 h.get?)) && He.tabsB h.get? LL.tf (He.frT h.get? (as31 h.get?))) = true := congrArg (fun z : He.AlX × FnC => z.1.2) e
  obtain ⟨h1, h2⟩ := He.ba e2
  have key : ∀ p ∈ LL.tf, PySem.W.codeHdIn (He.frT h.get? (as31 h.get?)) (He.cT (He.frT h.get? (as31 h.get?)) p).1 (He.cT (He.frT h.get? (as31 h.get?)) p).2 = true ∧ ∃ o, h.get? (He.cT (He.frT h.get? (as31 h.get?)) p).2 = some o ∧ He.emptyTab o = true := fun p hp => by
    obtain ⟨h3, h4⟩ := He.ba (List.all_eq_true.mp h2 p hp)
    refine ⟨h3, ?_⟩
    cases q : h.get? (He.cT (He.frT h.get? (as31 h.get?)) p).2 with
    | none =>
      rw [q] at h4
      cases h4
    | some o =>
      rw [q] at h4
      exact ⟨o, rfl, h4⟩
  exact ⟨⟨e1, h1, fun p hp => (key p hp).1, fun p hp => by
    obtain ⟨_, o, q, z⟩ := key p hp
    exact He.frT_none q z, fun p hp => by
    obtain ⟨_, o, q, z⟩ := key p hp
    rw [q, He.emptyTab_eq z]⟩, congrArg (fun z : He.AlX × FnC => z.2) e⟩
/-- what is looked at behind the head -/
def hk31 : PySem.W.Hook where
  α := He.AlX × FnC
  obs := fun s => obs31 s.heap.get?
  val := fun w => (He.valX fn31 [] w, valC)
  says := fun w h => ∃ K : PySem.W.Frag, K.In h ∧ He.SaysX fa31 fn31 [] LL.tf ex31 w h K ∧ fnC K = valC
  of := fun _ _ e => ⟨_, He.frT_in, (says31 e).1, (says31 e).2⟩
  keeps := fun _ _ _ ⟨K, hK, c, e⟩ k => ⟨K, PySem.W.Frag.In.keeps hK k, ⟨c.t, c.more, c.hd, c.out, fun p hp => k _ _ (c.empty p hp)⟩, e⟩
def ob31 (s : PySem.W.SharedT) : He.AlX × FnC := obs31 (HandSHeadRun.getT s)
theorem ob31_eq (s : PySem.W.SharedT) : ob31 s = hk31.obs s.abs := by
  have e : HandSHeadRun.getT s = s.abs.heap.get? := funext (HandSHeadRun.getT_eq s)
  unfold ob31
  rw [e] <;> rfl
end Dat.K31

/-! Sn31 -/
set_option linter.all false
set_option maxRecDepth 100000
set_option maxHeartbeats 4000000
set_option exponentiation.threshold 10000
/-! Sn31: what the law by hand leans on, from the head. -/
namespace Dat.K31
open PySem PySem.Spec L2 PyProof.Rows Dat LamX
theorem oex_of {K : PySem.W.Frag} {C : Addr} (h : oexB K C = true) : OexC K C := by
  unfold oexB at h
  obtain ⟨h1, h2⟩ := He.ba h
  obtain ⟨h2, h3⟩ := He.ba h2
  obtain ⟨h3, h4⟩ := He.ba h3
  obtain ⟨h4, h5⟩ := He.ba h4
  refine ⟨?_, He.eqO_ok h2, of_decide_eq_true h3, of_decide_eq_true h4, h5⟩
  cases q : K.lookup C with
  | none => rw [q] at h1; cases h1
  | some o =>
    obtain ⟨oc, od, dt, osl⟩ := o
    rw [q] at h1
    cases oc with
    | type t =>
      cases dt with
      | cls cd =>
        obtain ⟨k1, k2⟩ := He.ba h1
        have et : t = "type" := beq_iff_eq.mp k1
        subst et
        obtain ⟨nm, bs, mro, ns, qn, hd, sn, sub, ab, col, del⟩ := cd
        obtain ⟨osl⟩ := osl
        simp only at k2
        split at k2
        · rename_i C' bm k0 k1' k2' k3 n k5
          obtain ⟨a1, a2⟩ := He.ba k2
          obtain ⟨a2, a3⟩ := He.ba a2
          obtain ⟨a3, a4⟩ := He.ba a3
          obtain ⟨a4, a5⟩ := He.ba a4
          have e1 : C' = C := beq_iff_eq.mp a1
          have e2 : n = "ValueError.__new__" := beq_iff_eq.mp a2
          have e3 : del = false := by simpa using a3
          have e4 : hd = true := a4
          subst e1 e2 e3 e4
          exact ⟨nm, qn, ns, bs, bm, sn, sub, ab, col, od, k0, k1', k2', k3, k5, rfl, a5⟩
        · cases k2
      | _ => cases h1
    | _ => cases h1
theorem exc_of {K : PySem.W.Frag} {C : Addr} (h : excB K C = true) : L2.ExcC K C := by
  unfold excB at h
  obtain ⟨h1, h⟩ := He.ba h
  obtain ⟨h2, h⟩ := He.ba h
  obtain ⟨h3, h⟩ := He.ba h
  obtain ⟨h4, h⟩ := He.ba h
  obtain ⟨h5, h⟩ := He.ba h
  obtain ⟨h6, h⟩ := He.ba h
  obtain ⟨h7, h8⟩ := He.ba h
  exact ⟨He.eqO_ok h1, He.eqO_ok h2, of_decide_eq_true h3, h4, He.eqO_ok h5, He.eqO_ok h6, of_decide_eq_true h7, of_decide_eq_true h8⟩
/-- the facts of a part of the lists -/
theorem says_part {fa fa' : List He.Fa} {fn fn' : List He.DefD} {K : PySem.W.Frag} (h : He.SaysD (fa ++ fa') (fn ++ fn') K) : He.SaysD fa fn K := by
  unfold He.SaysD He.obsD He.valD at h ⊢
  obtain ⟨h1, h2⟩ := Prod.mk.inj h
  obtain ⟨h3, h4⟩ := He.ba h1
  rw [List.all_append] at h3 h4
  rw [List.map_append, List.map_append] at h2
  have h5 := List.append_inj_left h2 (by simp)
  rw [(He.ba h3).1, (He.ba h4).1, h5] <;> rfl
section
variable {w : World} {K : PySem.W.Frag} {mg : Str → Option Value} {h : Heap}
theorem x31_of (F : Facts LL (LL.T K) K mg) (c : He.SaysD fa31 fn31 K) (X : K.In h) (G : h.Ns mainGlobals mg) (hk : kitB K = true) : X31 K mg := by
  have fm : ∀ {f : He.Fa}, f ∈ ([.cls "Desk", .mkr "Desk", .meth "Desk" "half", .noat "Desk" "state", .noat "Desk" "deeds", .noat "Desk" "undone", .glo "Desk", .glo "RealFault", .free "ValueError", .free "super"] ++ exN.map He.Fa.glo : List He.Fa) → f.ok K = true := fun hf => c.facts (List.mem_append_right _ hf)
  unfold kitB at hk
  have hk2 := fun x hx => He.ba (List.all_eq_true.mp hk x hx)
  exact {
    cls := fun x hx => He.glo_ok X G (fm (f := .glo x) (List.mem_append_right _ (List.mem_map_of_mem hx)))
    rf := He.glo_ok X G (fm (f := .glo "RealFault") (by simp))
    isi := F.blt _ (by decide +kernel)
    ve := He.free_ok X G (fm (f := .free "ValueError") (by simp))
    exc := fun x hx => exc_of (He.ba (He.ba (hk2 x hx).2).2).1
    exm := fun x hx => of_decide_eq_true (He.ba (He.ba (hk2 x hx).2).2).2
    kit := fun x hx y hy => of_decide_eq_true (List.all_eq_true.mp (hk2 x hx).1 y hy)
    kitV := fun x hx => of_decide_eq_true (He.ba (hk2 x hx).2).1 }
theorem bp31_of {base : Heap} (c : He.SaysD fa31 fn31 K) (X : K.In h) (G : h.Ns mainGlobals mg) (hb : bpB K = true) (hc : fnC K = valC) : Bp31 PR w K mg base (fBp K) := by
  have fm : ∀ {f : He.Fa}, f ∈ ([.cls "Desk", .mkr "Desk", .meth "Desk" "half", .noat "Desk" "state", .noat "Desk" "deeds", .noat "Desk" "undone", .glo "Desk", .glo "RealFault", .free "ValueError", .free "super"] ++ exN.map He.Fa.glo : List He.Fa) → f.ok K = true := fun hf => c.facts (List.mem_append_right _ hf)
  unfold bpB at hb
  obtain ⟨b1, hb⟩ := He.ba hb
  obtain ⟨b2, hb⟩ := He.ba hb
  obtain ⟨b3, hb⟩ := He.ba hb
  obtain ⟨b4, hb⟩ := He.ba hb
  obtain ⟨b5, hb⟩ := He.ba hb
  obtain ⟨b6, hb⟩ := He.ba hb
  obtain ⟨b7, hb⟩ := He.ba hb
  obtain ⟨b8, b9⟩ := He.ba hb
  have T := oex_of b1
  refine ⟨T, He.eqO_ok b2, of_decide_eq_true b3, ?_, He.glo_ok X G (fm (f := .glo "BadPaper") (List.mem_append_right _ (List.mem_map_of_mem (by decide +kernel))))⟩
  unfold fnC at hc
  unfold initB at b4
  cases q : K.lookup (fBp K) with
  | none => rw [q] at b4; cases b4
  | some o =>
    obtain ⟨oc, od, dt, osl⟩ := o
    rw [q] at b4 hc
    cases dt with
    | func fd =>
      obtain ⟨n1, n2, n3, n4, n5, n6, n7, n8, n9, n10, n11, n12, n13, n14, n15⟩ := fd
      simp only at b4 hc
      split at b4
      case h_2 => cases b4
      rename_i cda x cc
      obtain ⟨k1, b4⟩ := He.ba b4
      obtain ⟨k2, k3⟩ := He.ba b4
      unfold valC at hc
      simp only [Option.some.injEq, Prod.mk.injEq, List.map_cons, List.map_nil, List.cons.injEq, and_true] at hc
      obtain ⟨rfl, rfl, rfl, rfl, rfl, rfl, rfl, rfl, rfl⟩ := hc
      have B : BpK PR K (He.ga K "BadPaper") (fBp K) cc cda := {
        T := T
        fd := ⟨_, _, _, _, _, q, rfl, rfl⟩
        code := by
          cases q2 : K.lookup cda with
          | none => rw [q2] at k2; cases k2
          | some o =>
            obtain ⟨oc, od, dt, osl⟩ := o
            rw [q2] at k2
            cases dt with
            | fields vs =>
              simp only at k2
              split at k2
              · rename_i file t e
                exact ⟨_, _, _, _, _, _, rfl, e, k2⟩
              · cases k2
            | _ => cases k2
        cell := by
          cases q2 : K.lookup cc with
          | none => rw [q2] at k3; cases k3
          | some o =>
            obtain ⟨oc, od, dt, osl⟩ := o
            rw [q2] at k3
            split at k3
            · rename_i C e
              rw [Option.some.injEq] at e
              cases e
              have e3 := beq_iff_eq.mp k3
              subst e3
              exact ⟨_, _, _, rfl⟩
            · cases k3
        self := of_decide_eq_true b5
        ini := He.eqO_ok b6
        ve := of_decide_eq_true b7
        opq := He.eqO_ok b8 }
      exact ⟨_, fn_bp (k := 0) B q k1 (NdefX.nscope_by (by decide +kernel)) (by decide +kernel) (He.eqO_ok b9) (He.free_ok X G (fm (f := .free "super") (by simp))) (by decide +kernel) (fun env => by rfl), .all fun us hl => by
        match us, hl with
        | [_, _], _ => rfl⟩
    | _ => cases b4
end
end Dat.K31

/-! Tn31 -/
set_option linter.all false
set_option maxRecDepth 100000
set_option maxHeartbeats 4000000
set_option exponentiation.threshold 10000
/-! Tn31: the law by its small program, a def by hand. -/
namespace Dat.K31
open PySem PySem.Spec L2 PyProof.Rows Dat LamX
theorem hand_only : ∀ d ∈ LL.defs, d.hand = true → d = d_law := by
  unfold LL
  intro d hd hh
  simp only at hd
  repeat (rcases List.mem_cons.mp hd with rfl | hd <;> first | (cases hh; done) | rfl | skip)
  cases hd
section
variable {w : World} {K : PySem.W.Frag} {mg : Str → Option Value} {h : Heap}
theorem h31_of {base : Heap} (F : Facts LL (LL.T K) K mg) (c : He.SaysD fa31 fn31 K) (hex : ex31 K = true) (hc : fnC K = valC) (X : K.In h) (G : h.Ns mainGlobals mg) : H31 PR w K mg base (LL.T K) (fBp K) (He.ma K (CD K) "__init__") (He.ma K (CD K) "half") := by
  have fm : ∀ {f : He.Fa}, f ∈ ([.cls "Desk", .mkr "Desk", .meth "Desk" "half", .noat "Desk" "state", .noat "Desk" "deeds", .noat "Desk" "undone", .glo "Desk", .glo "RealFault", .free "ValueError", .free "super"] ++ exN.map He.Fa.glo : List He.Fa) → f.ok K = true := fun hf => c.facts (List.mem_append_right _ hf)
  have cl := fm (f := .cls "Desk") (by simp)
  obtain ⟨c1, cl⟩ := He.ba cl
  obtain ⟨c2, cl⟩ := He.ba cl
  obtain ⟨c3, c4⟩ := He.ba cl
  have mk := fm (f := .mkr "Desk") (by simp)
  obtain ⟨k1, mk⟩ := He.ba mk
  obtain ⟨k2, mk⟩ := He.ba mk
  obtain ⟨k3, k4⟩ := He.ba mk
  have mt := fm (f := .meth "Desk" "half") (by simp)
  obtain ⟨m1, m2⟩ := He.ba mt
  obtain ⟨m2, m3⟩ := He.ba m2
  have bk := (He.ba hex).2
  obtain ⟨fd1, D1⟩ := c.defs (d := dDI) (List.mem_append_right _ (by simp))
  obtain ⟨fd2, D2⟩ := c.defs (d := dDH) (List.mem_append_right _ (by simp))
  exact {
    F := F
    X := x31_of F c X G (He.ba bk).2
    B := bp31_of c X G (He.ba bk).1 hc
    dg := He.glo_ok X G (fm (f := .glo "Desk") (by simp))
    dc := ⟨c1, c2, c3, He.eqO_ok c4⟩
    dk := ⟨k1, He.eqO_ok k2, k3, k4⟩
    dm := ⟨He.eqO_ok m1, m2, m3⟩
    n1 := He.eqO_ok (fm (f := .noat "Desk" "state") (by simp))
    n2 := He.eqO_ok (fm (f := .noat "Desk" "deeds") (by simp))
    n3 := He.eqO_ok (fm (f := .noat "Desk" "undone") (by simp))
    fd := ⟨fd1, D1, FunD.bindsN D1 fun _ _ _ _ _ _ us hl => match us, hl with | [_], _ => rfl⟩
    fh := ⟨fd2, D2, FunD.bindsN D2 fun _ _ _ _ _ _ us hl => match us, hl with | [_, _], _ => rfl⟩ }
theorem hand31 {base : Heap} (F : Facts LL (LL.T K) K mg) (c : He.SaysD fa31 fn31 K) (hex : ex31 K = true) (hc : fnC K = valC) (X : K.In h) (G : h.Ns mainGlobals mg) : HandOk LL (LL.T K) PR w K mg base := by
  intro d hd hh ir hir n cdv A outer s H E GG
  have e := hand_only d hd hh
  subst e
  cases hir
  exact hand_law n (h31_of F c hex hc X G) GG
end
/-- the law, from the small program's answer -/
theorem law_at31 {n0 k n : Nat} {w : World} {K : PySem.W.Frag} {mg : Str → Option Value} {fa : Addr} {h : Heap} (Ck : Checked LL n0) (ht : LL.toldB = true) (hg : LL.gloB = true)
    (hf : mg d_law.name = some (.ref fa)) (KX : K.In h) (G : h.Ns mainGlobals mg) (c : He.SaysX fa31 fn31 [] LL.tf ex31 w h K) (hc : fnC K = valC) (pl : Plain LL k n nLaw) :
    LamX.LawAtS PySem.Challenge.rw_realhall_k31_refusals_apart w K (L2.CX PR w) k n "script" mg fa h := by
  have cd : He.SaysD fa31 fn31 K := c.t.d
  have cd0 : He.SaysD LL.fa LL.fn K := says_part cd
  have F := facts_of cd0 KX G (He.ba c.more).1 Ck ht hg
  have hd : LL.defs[nLaw]? = some d_law := rfl
  have hm := List.mem_of_getElem? hd
  obtain ⟨fd, Fd⟩ := F.fund d_law hm
  have e := hf.symm.trans (F.glo d_law hm)
  have efa : fa = He.ga K d_law.name := by cases e; rfl
  subst efa
  have bA := Fd.bindsA (Ck.bnd d_law hm)
  refine ⟨fd, LL.lams.map (fun d => He.cT K (d.name, none)), spF K (LL.T K) LL.prog k nLaw, fun p hp => ?_, fun p hp => ?_, fun p hp => ?_, fun s u => bA s [u] rfl, fun H a ns hl hb hT hS => ?_, fun base hK hG TB => ?_⟩
  · obtain ⟨d', hd', rfl⟩ := List.mem_map.mp hp
    exact c.empty (d'.name, none) (List.mem_map_of_mem (f := fun d : DefI => ((d.name, none) : He.Defn)) hd')
  · obtain ⟨d', hd', rfl⟩ := List.mem_map.mp hp
    exact c.out (d'.name, none) (List.mem_map_of_mem (f := fun d : DefI => ((d.name, none) : He.Defn)) hd')
  · obtain ⟨d', hd', rfl⟩ := List.mem_map.mp hp
    exact PySem.W.codeHd_of_K KX (c.hd (d'.name, none) (List.mem_map_of_mem (f := fun d : DefI => ((d.name, none) : He.Defn)) hd'))
  · have tabs : LamX.Tabs (LL.T K) H := fun p hp => by
      obtain ⟨d', hd', rfl⟩ := List.mem_map.mp hp
      refine ⟨#[], hT (He.cT K (d'.name, none)) (List.mem_map_of_mem (f := fun d : DefI => He.cT K (d.name, none)) hd'), ?_, fun pos cv z => ?_⟩
      · simp [TriplesOk]
      · simp [codeAmong] at z
    obtain ⟨⟨m1, e1⟩, ⟨m2, e2⟩⟩ := pl ns hl hb
    have fin : ∀ {ρ : List Addr} {m m' : Mem} {d0 : D}, runF LL.prog k nLaw [d0] m = .ok (.bl true) m' → Sto K (LL.T K) ρ H m → RelD K ρ H d0 (.ref a) → spF K (LL.T K) LL.prog k nLaw [V.ref a] H (fun v _ => v = V.bl true) (fun _ _ _ => False) := fun {ρ m m' d0} e S r => by
      refine ⟨ρ, m, [d0], S, .cons r .nil, ?_⟩
      rw [e]
      exact fun ρ' H' _ _ v r => by cases r; rfl
    have S0 : Sto K (LL.T K) [] H [] := ⟨rfl, List.nodup_nil, fun i c h => by simp at h, tabs⟩
    rcases hS with (hS | ⟨o, hS⟩) | hS
    · refine fin e2 (ρ := [a]) ⟨rfl, by simp, fun i c h => ?_, tabs⟩ (.ref rfl)
      cases i with
      | zero =>
        cases h
        exact ⟨a, rfl, _, hS, relInts ns⟩
      | succ i => simp at h
    · exact fin e1 S0 (.fro (.inl ⟨o, hS⟩) (relInts ns))
    · exact fin e1 S0 (.fro (.inr hS) (relInts ns))
  · have HH : HandOk LL (LL.T K) PR w K mg base := hand31 F cd c.more hc KX G
    exact fn_one (w := w) (P := PR) (base := base) Ck F HH (fun d' hd' hl => TB (He.cT K (d'.name, none)) (List.mem_map_of_mem (f := fun d : DefI => He.cT K (d.name, none)) (List.mem_filter.mpr ⟨hd', by rcases hl with z | z <;> simp [z]⟩))) k
      (fun k' _ => fns_all Ck F HH (fun d' hd' hl => TB (He.cT K (d'.name, none)) (List.mem_map_of_mem (f := fun d : DefI => He.cT K (d.name, none)) (List.mem_filter.mpr ⟨hd', by rcases hl with z | z <;> simp [z]⟩))) k') hd Fd
end Dat.K31

/-! Un31 -/
set_option linter.all false
set_option maxRecDepth 100000
set_option maxHeartbeats 4000000
set_option exponentiation.threshold 10000
/-! Un31: the small program answers True. -/
namespace Dat.K31
open PySem PySem.Spec L2 PyProof.Rows Dat
theorem body_ok (E : Nat) (hE : 31 ≤ E) (hE2 : E ≤ 134217700) : BodyOk (LL.prog.ctl (runF LL.prog (8 + 2)) (runF LL.prog 8) (8 + 2)) irBody 7 E := by
  intro env m i a b z hl h1 hc hm hd
  obtain ⟨x0, x1, x2, x3, x4, x5, x6, rfl⟩ : ∃ x0 x1 x2 x3 x4 x5 x6, env = [x0, x1, x2, x3, x4, x5, x6] := by
    match env, hl with
    | [x0, x1, x2, x3, x4, x5, x6], _ => exact ⟨_, _, _, _, _, _, _, rfl⟩
  obtain rfl : x1 = some (.ref i) := by simpa using h1
  obtain ⟨r, a', b', c', r1, r2, r3, r4⟩ := roll_ok (P := LL.prog) (f := 46) (n := 9) rfl hE hE2 hm hd (by omega) (show (0 : Int) < 900 by decide) (by decide)
  have e : evalE irRoll (Cn (5 + 5)) (env0 x0 (some (.ref i)) x2) m = .ok (.int (1 + r)) (m.set i (.lst [.int a', .int b', .int c'])) := by
    have c : (Cn (5 + 5)).call = runF LL.prog (9 + 1) := rfl
    unfold irRoll env0
    simp only [fin_rt, fin_nx, fin_exn, seq_nx, seq_rt, seq_exn, seq_bk, seq_ct, bind_ok, bind_exn, out_ok, out_exn, tst_ok, tst_exn, gc_ok_, gc_exn, gcM_same, asB_bl, selB_t, selB_f, selE_t, selE_f, rdV_some, stT_some, e_var, e_con, e_glo, e_nop, t_bin, t_neg, t_not, t_cmp, t_cmp2, cmp2T_t, cmp2T_f, t_and, t_or, t_if, t_idx, t_tup, t_lst, t_call, t_blt, t_mth, mthT_t, es_nil, ts_cons, b_nil, tb_cons, ts_asg, ts_expr, ts_if, ts_ret, s_rais, seqT_nx, seqT_rt, seqT_exn, seqT_bk, seqT_ct, bindT_ok, bindT_exn, outT_ok, outT_exn, tstT_ok, tstT_exn, asBT_bl, c_eqI, c_neI, c_ltI, c_leI, c_gtI, c_geI, o_addI, o_subI, n_I, abs_N, ix_tup, lift_some, at0, at1, at2, at3, asT_var, asT_tup, asTs_nil, asTs_cons, ctl_call, List.getElem?_cons_zero, List.getElem?_cons_succ, List.set_cons_zero, List.set_cons_succ, List.length_cons, List.length_nil, List.map_cons, List.map_nil, List.cons_append, List.nil_append, List.replicate_succ, List.replicate_zero, Nat.reduceAdd, Nat.reduceSub, Nat.reduceLT, Nat.reduceLeDiff, sz, Option.bind_some, Option.bind_none, Option.map_some, Bool.false_eq_true, if_true, if_false, reduceIte, Nat.zero_add, startE, Bool.not_true, Bool.not_false, decide_true, decide_false, c, r4]
  have g : gcM m.length (.int (1 + r)) (m.set i (.lst [.int a', .int b', .int c'])) = m.set i (.lst [.int a', .int b', .int c']) := by
    have l : m.length = (m.set i (.lst [.int a', .int b', .int c'])).length := by rw [List.length_set]
    rw [l]
    exact gcM_same
  refine ⟨env0 x0 (some (.ref i)) (some (.int (1 + r))), a', b', c', rfl, ?_⟩
  have e2 := body_ev (n := 5) (x0 := x0) (x1 := some (.ref i)) (x2 := x2) (x3 := x3) (x4 := x4) (x5 := x5) (x6 := x6) (m := m)
  rw [e] at e2
  simp only [Res.gc, Res.out, g] at e2
  rw [if_pos (by omega)] at e2
  exact e2
theorem plain : Plain LL (8 + 3) 63 nLaw := plain_of (iR := 47) (iD := 45) (most := 3) (nn := 7) (B := irBody) rfl rfl rfl (by decide) (by decide) fun E h1 h2 => body_ok E h1 h2
end Dat.K31

set_option linter.all false
set_option maxRecDepth 100000
set_option maxHeartbeats 0
namespace Dat.K31
open PySem PySem.Spec L2 PyProof.Rows Dat
def names0 : List PySem.Str := ["_wall", "RealFault", "BadNumber", "BadTerm", "BadPaper", "NoWay", "TooLarge", "BadDeed", "shared", "made", "add", "less", "times", "over", "turned", "sign", "order", "least", "greatest", "raised", "root_floor", "at", "plus", "minus", "negative", "product", "quotient", "power", "root", "root_below"]
def names1 : List PySem.Str := ["root_above", "two_to", "holds", "inside", "middle", "halves", "sign_of", "TWO", "is_term", "check_term", "number", "value", "bounded", "slope", "plain", "power_plain", "told", "FINE", "narrowed", "kind_of", "parted", "look_rows", "counted", "Desk", "repeats", "_law_dice", "_law_roll", "_law_rounds", "_law_told"]
def names : List PySem.Str := names0 ++ names1
abbrev R0 : PySem.W.OpenRow := PySem.W.OpenLaw.row PySem.Challenge.rw_realhall_k31_refusals_apart
theorem run0 (w : World) : HandSHeadRun.RunEq R0 (PySem.W.view R0.prog [67]) hk31 ob31 20000 names w := by
  intro os
  kernel_rfl
theorem sc_all : LL.defs.all (defB LL 0) = true := by decide +kernel
theorem comp_all : AllC LL 60 LL.defs :=
  .cons (by first | exact .inl rfl | exact .inr (.inl (by rfl)) | exact .inr (.inr rfl)) <|
  .cons (by first | exact .inl rfl | exact .inr (.inl (by rfl)) | exact .inr (.inr rfl)) <|
  .cons (by first | exact .inl rfl | exact .inr (.inl (by rfl)) | exact .inr (.inr rfl)) <|
  .cons (by first | exact .inl rfl | exact .inr (.inl (by rfl)) | exact .inr (.inr rfl)) <|
  .cons (by first | exact .inl rfl | exact .inr (.inl (by rfl)) | exact .inr (.inr rfl)) <|
  .cons (by first | exact .inl rfl | exact .inr (.inl (by rfl)) | exact .inr (.inr rfl)) <|
  .cons (by first | exact .inl rfl | exact .inr (.inl (by rfl)) | exact .inr (.inr rfl)) <|
  .cons (by first | exact .inl rfl | exact .inr (.inl (by rfl)) | exact .inr (.inr rfl)) <|
  .cons (by first | exact .inl rfl | exact .inr (.inl (by rfl)) | exact .inr (.inr rfl)) <|
  .cons (by first | exact .inl rfl | exact .inr (.inl (by rfl)) | exact .inr (.inr rfl)) <|
  .cons (by first | exact .inl rfl | exact .inr (.inl (by rfl)) | exact .inr (.inr rfl)) <|
  .cons (by first | exact .inl rfl | exact .inr (.inl (by rfl)) | exact .inr (.inr rfl)) <|
  .cons (by first | exact .inl rfl | exact .inr (.inl (by rfl)) | exact .inr (.inr rfl)) <|
  .cons (by first | exact .inl rfl | exact .inr (.inl (by rfl)) | exact .inr (.inr rfl)) <|
  .cons (by first | exact .inl rfl | exact .inr (.inl (by rfl)) | exact .inr (.inr rfl)) <|
  .cons (by first | exact .inl rfl | exact .inr (.inl (by rfl)) | exact .inr (.inr rfl)) <|
  .cons (by first | exact .inl rfl | exact .inr (.inl (by rfl)) | exact .inr (.inr rfl)) <|
  .cons (by first | exact .inl rfl | exact .inr (.inl (by rfl)) | exact .inr (.inr rfl)) <|
  .cons (by first | exact .inl rfl | exact .inr (.inl (by rfl)) | exact .inr (.inr rfl)) <|
  .cons (by first | exact .inl rfl | exact .inr (.inl (by rfl)) | exact .inr (.inr rfl)) <|
  .cons (by first | exact .inl rfl | exact .inr (.inl (by rfl)) | exact .inr (.inr rfl)) <|
  .cons (by first | exact .inl rfl | exact .inr (.inl (by rfl)) | exact .inr (.inr rfl)) <|
  .cons (by first | exact .inl rfl | exact .inr (.inl (by rfl)) | exact .inr (.inr rfl)) <|
  .cons (by first | exact .inl rfl | exact .inr (.inl (by rfl)) | exact .inr (.inr rfl)) <|
  .cons (by first | exact .inl rfl | exact .inr (.inl (by rfl)) | exact .inr (.inr rfl)) <|
  .cons (by first | exact .inl rfl | exact .inr (.inl (by rfl)) | exact .inr (.inr rfl)) <|
  .cons (by first | exact .inl rfl | exact .inr (.inl (by rfl)) | exact .inr (.inr rfl)) <|
  .cons (by first | exact .inl rfl | exact .inr (.inl (by rfl)) | exact .inr (.inr rfl)) <|
  .cons (by first | exact .inl rfl | exact .inr (.inl (by rfl)) | exact .inr (.inr rfl)) <|
  .cons (by first | exact .inl rfl | exact .inr (.inl (by rfl)) | exact .inr (.inr rfl)) <|
  .cons (by first | exact .inl rfl | exact .inr (.inl (by rfl)) | exact .inr (.inr rfl)) <|
  .cons (by first | exact .inl rfl | exact .inr (.inl (by rfl)) | exact .inr (.inr rfl)) <|
  .cons (by first | exact .inl rfl | exact .inr (.inl (by rfl)) | exact .inr (.inr rfl)) <|
  .cons (by first | exact .inl rfl | exact .inr (.inl (by rfl)) | exact .inr (.inr rfl)) <|
  .cons (by first | exact .inl rfl | exact .inr (.inl (by rfl)) | exact .inr (.inr rfl)) <|
  .cons (by first | exact .inl rfl | exact .inr (.inl (by rfl)) | exact .inr (.inr rfl)) <|
  .cons (by first | exact .inl rfl | exact .inr (.inl (by rfl)) | exact .inr (.inr rfl)) <|
  .cons (by first | exact .inl rfl | exact .inr (.inl (by rfl)) | exact .inr (.inr rfl)) <|
  .cons (by first | exact .inl rfl | exact .inr (.inl (by rfl)) | exact .inr (.inr rfl)) <|
  .cons (by first | exact .inl rfl | exact .inr (.inl (by rfl)) | exact .inr (.inr rfl)) <|
  .cons (by first | exact .inl rfl | exact .inr (.inl (by rfl)) | exact .inr (.inr rfl)) <|
  .cons (by first | exact .inl rfl | exact .inr (.inl (by rfl)) | exact .inr (.inr rfl)) <|
  .cons (by first | exact .inl rfl | exact .inr (.inl (by rfl)) | exact .inr (.inr rfl)) <|
  .cons (by first | exact .inl rfl | exact .inr (.inl (by rfl)) | exact .inr (.inr rfl)) <|
  .cons (by first | exact .inl rfl | exact .inr (.inl (by rfl)) | exact .inr (.inr rfl)) <|
  .cons (by first | exact .inl rfl | exact .inr (.inl (by rfl)) | exact .inr (.inr rfl)) <|
  .cons (by first | exact .inl rfl | exact .inr (.inl (by rfl)) | exact .inr (.inr rfl)) <|
  .cons (by first | exact .inl rfl | exact .inr (.inl (by rfl)) | exact .inr (.inr rfl)) <|
  .cons (by first | exact .inl rfl | exact .inr (.inl (by rfl)) | exact .inr (.inr rfl)) <|
  .cons (by first | exact .inl rfl | exact .inr (.inl (by rfl)) | exact .inr (.inr rfl)) <|
  .nil
theorem ck : Checked LL 60 := ⟨fun d hd => defB_sc (List.all_eq_true.mp sc_all d hd), allB.at_, comp_all.at_⟩
theorem told_all : LL.toldB = true := by decide +kernel
theorem glo_all : LL.gloB = true := by decide +kernel
end Dat.K31
open PySem PySem.W PySem.Calls PyProof.Rows
theorem PySem.Challenge.cw_realhall_k31_refusals_apart_holds : PySem.Challenge.rw_realhall_k31_refusals_apart.Holds := by
  w_on; o_law
  refine HandSHeadRun.head_any (r := OpenLaw.row PySem.Challenge.rw_realhall_k31_refusals_apart) (q := view (OpenLaw.row PySem.Challenge.rw_realhall_k31_refusals_apart).prog [67]) (H := Dat.K31.hk31) (ob := Dat.K31.ob31) (M := 20000) (loose := Dat.K31.names) (d := HandSHeadRun.topDef (OpenLaw.row PySem.Challenge.rw_realhall_k31_refusals_apart).prog 67) (kwd := []) Dat.K31.ob31_eq
    (by kernel_rfl) (fun s => by kernel_rfl) Dat.K31.run0 (by kernel_rfl) (by kernel_rfl) (by kernel_rfl) (by rfl) (by first | assumption | decide +kernel) (by decide +kernel) ⟨rfl, rfl, rfl, rfl, rfl, by decide +kernel⟩ ?hw ?hc
  case hw => w_witness2
  case hc =>
    refine LamX.walk_ofTsE (l := PySem.Challenge.rw_realhall_k31_refusals_apart) (n := 63) (k := 11) (x := "script") (CX := fun w => L2.CX (PySem.Challenge.rw_realhall_k31_refusals_apart).prog w) rfl (by decide) (by kernel_rfl) ⟨rfl, by decide, by decide⟩ ?F (fun _ _ _ _ _ ⟨_, _, _, _, _, _, _, _, _, _, _, _, z⟩ => z)
    intro w mg fa h Y G hmg0
    obtain ⟨K, KX, c, hc⟩ := Y
    have hmg : mg (Dat.K31.d_law).name = some (.ref fa) := by
      have e : (HandSHeadRun.topDef (OpenLaw.row PySem.Challenge.rw_realhall_k31_refusals_apart).prog 67).name = (Dat.K31.d_law).name := by kernel_rfl
      rw [← e]
      exact hmg0
    exact ⟨K, KX, Dat.K31.law_at31 Dat.K31.ck Dat.K31.told_all Dat.K31.glo_all hmg KX G c hc Dat.K31.plain⟩

