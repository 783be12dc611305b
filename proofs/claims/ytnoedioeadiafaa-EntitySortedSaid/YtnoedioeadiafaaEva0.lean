/- A reading of the program, proved sound against the model, and what its functions answer by it: part 0. -/
import Derived.Calls
import Derived.Test.YtnoedioeadiafaaProg
import Derived.KernelRfl
/- Eva, part 1: an abstract, deterministic reading of the program's code over trees (values that are never written) and a small heap of the call's own. Definitions alone. -/
namespace Go.Eva

/-- A value that holds no memory that is written: a tree. -/
inductive T where
  | any
  | int (k : IntKind) (n : Int)
  | bool (b : Bool)
  | str (s : ByteArray)
  | agg (vs : List T)
  | sl (sz : Nat) (xs : List T)
  | ip (sz : Nat) (x : T) (off : Nat)
  | clo (f : Nat) (cs : List T)
  | nilp | nilf | nilm

/-- A value of a running function: a tree, or something that leads into its own heap. -/
inductive V where
  | t (x : T)
  | nil
  | fit (sz : Nat) (xs : List T)
  | all (id : Nat) (lim : Option Nat)
  | sl (id off len : Nat) (lim : Option Nat)
  | ptr (id i j : Nat)
  | clo (f : Nat) (cs : List V)
  | agg (vs : List V)
  | tup (vs : List V)

inductive Ob where
  | arr (sz : Nat) (xs : List T) (spare : Option Nat) (ro : Bool)
  | one (sz : Nat) (v : V) (ro : Bool)
  | dead

abbrev Heap := List Ob

inductive Task where
  | call (f : Nat) (args : List V) (H : Heap)
  | loop (f : Nat) (p : List Nat) (keep : Nat) (vs : List V) (H : Heap)

inductive Ex where
  | normal | exit (id : Nat) | ret

structure Res where
  e : Ex
  vs : List V
  H : Heap

inductive Q (α : Type) : Type where
  | fail
  | ret (a : α)
  | ask (t : Task) (k : Res → Q α)
  | test (b : Bool) (k : Bool → Q α)
  | num (kd : IntKind) (n : Int) (k : Int → Q α)
  | get (xs : List T) (i : Nat) (k : T → Q α)
  | norm (x : T) (k : T → Q α)
  | nat (n : Nat) (k : Nat → Q α)
  | cap (lo : Nat) (k : Nat → Q α)
  | want (p : Prop) (q : Q α)
  | both (p q : Q α)

def Q.bind {α β : Type} : Q α → (α → Q β) → Q β
  | .fail, _ => .fail
  | .ret a, f => f a
  | .ask t k, f => .ask t fun x => (k x).bind f
  | .test b k, f => .test b fun x => (k x).bind f
  | .num kd n k, f => .num kd n fun x => (k x).bind f
  | .get xs i k, f => .get xs i fun x => (k x).bind f
  | .norm x k, f => .norm x fun y => (k y).bind f
  | .nat n k, f => .nat n fun y => (k y).bind f
  | .cap lo k, f => .cap lo fun y => (k y).bind f
  | .want p q, f => .want p (q.bind f)
  | .both p q, f => .both (p.bind f) (q.bind f)

/-- What a reading promises, by what is promised of the tasks that it asks for. -/
def wpQ (S : Task → (Res → Prop) → Prop) {α : Type} : Q α → (α → Prop) → Prop
  | .fail, _ => False
  | .ret a, R => R a
  | .ask t k, R => ∃ R', S t R' ∧ (∃ x, R' x) ∧ ∀ x, R' x → wpQ S (k x) R
  | .test b k, R => wpQ S (k b) R
  | .num kd n k, R => wpQ S (k (kd.wrap n)) R
  | .get xs i k, R => ∃ x, xs[i]? = some x ∧ x ≠ .any ∧ wpQ S (k x) R
  | .norm x k, R => wpQ S (k x) R
  | .nat n k, R => wpQ S (k n) R
  | .cap lo k, R => ∀ c, lo ≤ c → wpQ S (k c) R
  | .want p q, R => p ∧ wpQ S q R
  | .both p q, R => wpQ S p R ∧ wpQ S q R

-- types
inductive Ty where
  | int (k : IntKind) | bool | str | ptr | fn | slice (e : Nat) | struct (fs : List (Nat × Nat)) | map (k e : Nat) | other

structure TI where
  ty : Ty
  size : Nat
  bytes : Nat
  eq : Bool

inductive Mode where
  | pure | fresh | inout

inductive RV where
  | tmp (t : Nat) | cell (a t : Nat)

/-- In which order a region is read: one that may be taken first, or the two that alone are ready. -/
inductive Ord where
  | done
  | one (i : Nat) (r : Ord)
  | two (i : Nat) (r : Ord) (j : Nat) (s : Ord)

structure FI where
  code : Code
  res : List RV
  mode : Mode
  live : List (List Nat × List Nat)
  draws : List (Nat × Ord)
  own : List (List Nat × List Nat)
  tidy : Bool

/-- A table by numbers: 0 at the root, the odd ones to the left, the even ones to the right. -/
inductive Tr (α : Type) where
  | z
  | n (l : Tr α) (v : α) (r : Tr α)
  | h (l : Tr α) (r : Tr α)

def Tr.get {α : Type} : Tr α → Nat → Option α
  | .z, _ => none
  | .n l v r, i => match Nat.beq i 0 with
    | true => some v
    | false => match Nat.beq (Nat.mod i 2) 1 with
      | true => l.get (Nat.div i 2)
      | false => r.get (Nat.pred (Nat.div i 2))
  | .h l r, i => match Nat.beq i 0 with
    | true => none
    | false => match Nat.beq (Nat.mod i 2) 1 with
      | true => l.get (Nat.div i 2)
      | false => r.get (Nat.pred (Nat.div i 2))

/-- What is done by the machine itself. -/
inductive Xf where
  | overlaps (t : Nat)

structure Cx where
  ti : Tr TI
  fn : Tr (Option FI)
  ex : List (Nat × Xf)

def exAt : List (Nat × Xf) → Nat → Option Xf
  | [], _ => none
  | (g, x) :: r, f => match Nat.beq g f with | true => some x | false => exAt r f

def nth {α : Type} : List α → Nat → Option α
  | [], _ => none
  | x :: _, 0 => some x
  | _ :: r, n + 1 => nth r n

def T.cells : T → List T
  | .agg vs => vs
  | x => [x]

def V.cells : V → List V
  | .t (.agg vs) => vs.map .t
  | .agg vs => vs
  | v => [v]

def allT : List V → Option (List T)
  | [] => some []
  | .t x :: r => match allT r with | some l => some (x :: l) | none => none
  | _ => none

def mkAgg (vs : List V) : V := match allT vs with | some l => .t (.agg l) | none => .agg vs

abbrev Env := List (Nat × V)

def look : Env → Nat → V
  | [], _ => .t .any
  | (t', v) :: r, t => match Nat.beq t' t with | true => v | false => look r t

structure St where
  env : Env
  H : Heap

/-- A value is put into its head form before it is kept. -/
def force (v : V) : Q V := match v with
  | .t x => .ret (.t x)
  | .nil => .ret .nil
  | .fit s xs => .ret (.fit s xs)
  | .all i l => .ret (.all i l)
  | .sl i o n l => .ret (.sl i o n l)
  | .ptr i j o => .ret (.ptr i j o)
  | .clo f cs => .ret (.clo f cs)
  | .agg vs => .ret (.agg vs)
  | .tup vs => .ret (.tup vs)

def forceT (x : T) : Q T := match x with
  | .any => .ret .any
  | .int k n => .ret (.int k n)
  | .bool b => .ret (.bool b)
  | .str s => .ret (.str s)
  | .agg vs => .ret (.agg vs)
  | .sl s xs => .ret (.sl s xs)
  | .ip s x o => .ret (.ip s x o)
  | .clo f cs => .ret (.clo f cs)
  | .nilp => .ret .nilp
  | .nilf => .ret .nilf
  | .nilm => .ret .nilm

/-- 'n' of a list's members from 'off' on, each in head form. -/
def cutT : List T → Nat → Nat → Q (List T)
  | _, _, 0 => .ret []
  | [], _, _ + 1 => .fail
  | _ :: r, off + 1, n + 1 => cutT r off (n + 1)
  | x :: r, 0, n + 1 => (forceT x).bind fun x => (cutT r 0 n).bind fun l => .ret (x :: l)

def cutV : List V → Nat → Nat → Q (List V)
  | _, _, 0 => .ret []
  | [], _, _ + 1 => .fail
  | _ :: r, off + 1, n + 1 => cutV r off (n + 1)
  | x :: r, 0, n + 1 => (force x).bind fun x => (cutV r 0 n).bind fun l => .ret (x :: l)

/-- Members from 'off' on are written over. -/
def over {α : Type} : List α → Nat → List α → List α
  | l, _, [] => l
  | [], _, _ :: _ => []
  | x :: r, off + 1, ys => x :: over r off ys
  | _ :: r, 0, y :: ys => y :: over r 0 ys

/-- The number of cells of a value that is a tree's or lies in the own heap. -/
def V.size (v : V) : Nat := v.cells.length

-- constants
def constT : Value → Option T
  | .int k n => some (.int k n)
  | .bool b => some (.bool b)
  | .string s => some (.str s)
  | .pointer none => some .nilp
  | .nilFunc => some .nilf
  | .map none => some .nilm
  | _ => none

def constTs : List Value → Option (List T)
  | [] => some []
  | v :: r => match constT v, constTs r with | some x, some l => some (x :: l) | _, _ => none

def constV : Value → V
  | .slice none 0 0 => .nil
  | .agg cs => match constTs cs.toList with | some l => .t (.agg l) | none => .t .any
  | v => match constT v with | some x => .t x | none => .t .any

def evalO (e : Env) : Operand → V
  | .tmp t => look e t
  | .const v => constV v
  | .func f => .t (.clo f [])
  | .global _ => .t .any

/-- A small number in literal form. -/
def litN (n : Nat) : Q Nat := match n with
  | 0 => .ret 0 | 1 => .ret 1 | 2 => .ret 2 | 3 => .ret 3 | 4 => .ret 4 | 5 => .ret 5 | 6 => .ret 6 | 7 => .ret 7 | 8 => .ret 8
  | 9 => .ret 9 | 10 => .ret 10 | 11 => .ret 11 | 12 => .ret 12 | 13 => .ret 13 | 14 => .ret 14 | 15 => .ret 15 | 16 => .ret 16
  | n => .ret n

def forceN : List Nat → Q (List Nat)
  | [] => .ret []
  | x :: r => (litN x).bind fun x => (forceN r).bind fun l => .ret (x :: l)

/-- nil, as a slice of a type. -/
def typed (cx : Cx) (ty : Nat) (v : V) : Q V := match v with
  | .nil => match cx.ti.get ty with
    | some { ty := .slice e, .. } => match cx.ti.get e with
      | some i => (litN i.size).bind fun s => .ret (.fit s [])
      | none => .fail
    | _ => .fail
  | v => force v

def mem (l : List Nat) (i : Nat) : Bool := match l with
  | [] => false
  | x :: r => match Nat.beq x i with | true => true | false => mem r i

-- a tree of what a value says now; 'l': the objects that may be looked into
mutual
def fz (l : List Nat) (H : Heap) : Nat → V → Option T
  | 0, _ => none
  | _ + 1, .t x => some x
  | _ + 1, .nil => none
  | _ + 1, .fit s xs => some (.sl s xs)
  | _ + 1, .all id _ => match mem l id, nth H id with
    | true, some (.arr s xs _ _) => some (.sl s xs)
    | _, _ => none
  | _ + 1, .sl id off len _ => match mem l id, nth H id with
    | true, some (.arr s xs _ _) => some (.sl s ((xs.drop off).take len))
    | _, _ => none
  | n + 1, .ptr id i j => match mem l id, nth H id, i with
    | true, some (.one s v _), 0 => match fz l H n v with
      | some x => some (.ip s x j)
      | none => none
    | _, _, _ => none
  | n + 1, .clo f cs => match fzs l H n cs with
    | some l => some (.clo f l)
    | none => none
  | n + 1, .agg vs => match fzs l H n vs with
    | some l => some (.agg l)
    | none => none
  | _ + 1, .tup _ => none
def fzs (l : List Nat) (H : Heap) : Nat → List V → Option (List T)
  | 0, _ => none
  | _ + 1, [] => some []
  | n + 1, v :: r => match fz l H n v, fzs l H n r with
    | some x, some l => some (x :: l)
    | _, _ => none
end

def depth : Nat := 40

-- numbers of objects that a value leads to
mutual
def V.ids : V → List Nat
  | .all i _ => [i]
  | .sl i _ _ _ => [i]
  | .ptr i _ _ => [i]
  | .clo _ cs => idss cs
  | .agg cs => idss cs
  | .tup cs => idss cs
  | _ => []
def idss : List V → List Nat
  | [] => []
  | v :: r => v.ids ++ idss r
end

def Ob.ids : Ob → List Nat
  | .one _ v _ => v.ids
  | _ => []

/-- What is reached: 'done' with what it leads to (fuel first). -/
def reach (H : Heap) : Nat → List Nat → List Nat → List Nat
  | 0, _, done => done
  | _ + 1, [], done => done
  | n + 1, i :: todo, done => match mem done i with
    | true => reach H n todo done
    | false => match nth H i with
      | some o => reach H n (o.ids ++ todo) (done ++ [i])
      | none => reach H n todo (done ++ [i])

def place : List Nat → Nat → Nat → Option Nat
  | [], _, _ => none
  | x :: r, i, n => match Nat.beq x i with | true => some n | false => place r i (n + 1)

-- numbers turned
mutual
def V.re (m : Nat → Option Nat) : V → Option V
  | .t x => some (.t x)
  | .nil => some .nil
  | .fit s xs => some (.fit s xs)
  | .all i l => match m i with | some j => some (.all j l) | none => none
  | .sl i o n l => match m i with | some j => some (.sl j o n l) | none => none
  | .ptr i o n => match m i with | some j => some (.ptr j o n) | none => none
  | .clo f cs => match vre m cs with | some l => some (.clo f l) | none => none
  | .agg cs => match vre m cs with | some l => some (.agg l) | none => none
  | .tup cs => match vre m cs with | some l => some (.tup l) | none => none
def vre (m : Nat → Option Nat) : List V → Option (List V)
  | [] => some []
  | v :: r => match v.re m, vre m r with | some x, some l => some (x :: l) | _, _ => none
end

def Ob.re (m : Nat → Option Nat) : Ob → Option Ob
  | .one s v ro => match v.re m with | some v => some (.one s v ro) | none => none
  | .arr s xs f ro => some (.arr s xs f ro)
  | .dead => some .dead

def obre (m : Nat → Option Nat) : Heap → Option Heap
  | [] => some []
  | o :: r => match o.re m, obre m r with | some o, some l => some (o :: l) | _, _ => none

/-- The objects of some numbers, their own numbers turned. -/
def pull (m : Nat → Option Nat) (H : Heap) : List Nat → Option Heap
  | [] => some []
  | i :: r => match nth H i with
    | some o => match o.re m, pull m H r with
      | some o, some l => some (o :: l)
      | _, _ => none
    | none => none

def upto : Nat → Nat → List Nat
  | _, 0 => []
  | i, n + 1 => i :: upto (i + 1) n

def nodupB : List Nat → Bool
  | [] => true
  | x :: r => match mem r x with | true => false | false => nodupB r

def startsB : Nat → Nat → List Nat → Bool
  | _, 0, _ => true
  | i, n + 1, x :: r => match Nat.beq x i with | true => startsB (i + 1) n r | false => false
  | _, _ + 1, [] => false

/-- Values, and what of a heap they lead to (and its first 'keep' objects), under new numbers; 'back' has the old ones. -/
structure Gc where
  vs : List V
  H : Heap
  back : List Nat

def gc (keep : Nat) (vs : List V) (H : Heap) : Q Gc :=
  (forceN (reach H 200 (upto 0 keep ++ idss vs) [])).bind fun back =>
    match nodupB back && startsB 0 keep back, vre (fun i => place back i 0) vs, pull (fun i => place back i 0) H back with
    | true, some vs, some H' => .ret ⟨vs, H', back⟩
    | _, _, _ => .fail

/-- Objects go back to their places. -/
def setAll : Heap → List Nat → Heap → Option Heap
  | H, [], [] => some H
  | H, i :: back, o :: os => setAll (H.set i o) back os
  | _, _, _ => none

/-- Objects may be read alone from here on. -/
def roOb : Ob → Ob
  | .arr s xs f _ => .arr s xs f true
  | .one s v _ => .one s v true
  | .dead => .dead

def roAll : Nat → List Nat → Heap → Heap
  | _, _, [] => []
  | n, l, o :: r => match mem l n with
    | true => roOb o :: roAll (n + 1) l r
    | false => o :: roAll (n + 1) l r

def T.flat : T → Bool
  | .int _ _ => true
  | .bool _ => true
  | .str _ => true
  | _ => false

def flats : List T → Bool
  | [] => true
  | x :: r => x.flat && flats r

/-- What a value is as a tree; what it leads to is read alone from here on. -/
def toT (v : V) (H : Heap) : Q (T × Heap) := match v with
  | .t x => .ret (x, H)
  | .fit s xs => .ret (.sl s xs, H)
  | v => (forceN (reach H 200 v.ids [])).bind fun l => match fz l H depth v with
    | some x => .norm x fun x => .ret (x, roAll 0 l H)
    | none => .fail

/-- What closures hold is read alone from here on. -/
def fzClos : List V → Heap → Q (List V × Heap)
  | [], H => .ret ([], H)
  | v :: r, H => match v with
    | .clo f cs => (toT (.clo f cs) H).bind fun (x, H) => (fzClos r H).bind fun (l, H) => .ret (.t x :: l, H)
    | v => (fzClos r H).bind fun (l, H) => .ret (v :: l, H)

-- calls
def fzArgs (l : List Nat) (H : Heap) : List V → Q (List T)
  | [] => .ret []
  | v :: r => match v with
    | .t x => (fzArgs l H r).bind fun ts => .ret (x :: ts)
    | .fit s xs => (fzArgs l H r).bind fun ts => .ret (.sl s xs :: ts)
    | .sl id o n lim => match fz l H depth (.sl id o n lim) with
      | some x => .norm x fun x => (fzArgs l H r).bind fun ts => .ret (x :: ts)
      | none => .fail
    | v => match fz l H depth v with
      | some x => (fzArgs l H r).bind fun ts => .ret (x :: ts)
      | none => .fail

def packRes (vs : List V) (H : Heap) : Q (V × Heap) := match vs with
  | [v] => .ret (v, H)
  | vs => .ret (.tup vs, H)

/-- A call that is handed trees, and hands back trees. -/
def pureCall (f : Nat) (args : List V) (cs : List T) (H : Heap) : Q (V × Heap) :=
  (forceN (reach H 200 (idss args) [])).bind fun l =>
  (fzArgs l H args).bind fun as =>
    .ask (.call f ((as ++ cs).map .t) []) fun r => match r with
      | ⟨.ret, vs, _⟩ => match allT vs with
        | some ts => match l with
          | [] => packRes vs H
          | l => .test (flats ts) fun b => match b with
            | true => packRes vs H
            | false => packRes vs (roAll 0 l H)
        | none => .fail
      | _ => .fail

def callF (cx : Cx) (f : Nat) (args : List V) (H : Heap) : Q (V × Heap) :=
  match cx.fn.get f with
  | some (some fi) => match fi.mode with
    | .pure => pureCall f args [] H
    | .fresh =>
      (forceN (reach H 200 (idss args) [])).bind fun l =>
      (fzArgs l H args).bind fun as =>
        .ask (.call f (as.map .t) []) fun r => match r with
          | ⟨.ret, vs, H1⟩ => (forceN (upto H.length H1.length)).bind fun m => match vre (nth m) vs, obre (nth m) H1 with
            | some vs, some H1 => match l with
              | [] => packRes vs (H ++ H1)
              | l => packRes vs (roAll 0 l H ++ H1)
            | _, _ => .fail
          | _ => .fail
    | .inout => (fzClos args H).bind fun (args, H) =>
      (gc 0 args H).bind fun g =>
        .ask (.call f g.vs g.H) fun r => match r with
          | ⟨.ret, vs, H1⟩ => (forceN (upto H.length (H1.length - g.back.length))).bind fun m =>
            match vre (nth (g.back ++ m)) vs, obre (nth (g.back ++ m)) H1 with
            | some vs, some H1 => match setAll H g.back (H1.take g.back.length) with
              | some H => packRes vs (H ++ H1.drop g.back.length)
              | none => .fail
            | _, _ => .fail
          | _ => .fail
  | _ => .fail

-- zero values
mutual
def zeroV (cx : Cx) : Nat → Nat → Option V
  | 0, _ => none
  | n + 1, t => match cx.ti.get t with
    | some i => match i.ty with
      | .int k => some (.t (.int k 0))
      | .bool => some (.t (.bool false))
      | .str => some (.t (.str ⟨#[]⟩))
      | .ptr => some (.t .nilp)
      | .fn => some (.t .nilf)
      | .map _ _ => some (.t .nilm)
      | .slice e => match cx.ti.get e with | some i => some (.fit i.size []) | none => none
      | .struct fs => match zeroVs cx n fs with | some l => some (mkAgg l) | none => none
      | .other => none
    | none => none
def zeroVs (cx : Cx) : Nat → List (Nat × Nat) → Option (List V)
  | 0, _ => none
  | _ + 1, [] => some []
  | n + 1, (_, t) :: r => match zeroV cx n t, zeroVs cx n r with | some v, some l => some (v.cells ++ l) | _, _ => none
end

def toTs : List V → Heap → Q (List T × Heap)
  | [], H => .ret ([], H)
  | v :: r, H => (toT v H).bind fun (x, H) => (toTs r H).bind fun (l, H) => .ret (x :: l, H)

def setH : Heap → Nat → Ob → Q Heap
  | [], _, _ => .fail
  | _ :: r, 0, o => .ret (o :: r)
  | x :: r, n + 1, o => (setH r n o).bind fun r => .ret (x :: r)

def addH : Heap → Ob → Nat → Q (Nat × Heap)
  | [], o, n => (litN n).bind fun n => .ret (n, [o])
  | x :: r, o, n => (addH r o (n + 1)).bind fun (n, r) => .ret (n, x :: r)

def alloc (o : Ob) (H : Heap) : Q (Nat × Heap) := addH H o 0

def isStruct (cx : Cx) (t : Nat) : Bool := match cx.ti.get t with
  | some { ty := .struct _, .. } => true
  | _ => false

def sizeOf (cx : Cx) (t : Nat) : Nat := match cx.ti.get t with
  | some i => i.size
  | none => 0

def bytesOf (cx : Cx) (t : Nat) : Nat := match cx.ti.get t with
  | some i => i.bytes
  | none => 0

def there (H : Heap) (id : Nat) : Bool := match nth H id with
  | some (.one _ _ _) => true
  | some (.arr _ _ _ _) => true
  | _ => false

/-- It leads nowhere where nothing is any more; and it is one value. -/
def alive (H : Heap) : V → Bool
  | .ptr id _ _ => there H id
  | .all id _ => there H id
  | .sl id _ _ _ => there H id
  | .tup _ => false
  | _ => true

/-- A part of a tree of 's' cells, from cell 'j' on, as a type has it. -/
def loadT (cx : Cx) (t : Nat) (s : Nat) (x : T) (j : Nat) : Q V :=
  match isStruct cx t with
  | true => match Nat.beq j 0 && Nat.beq (sizeOf cx t) s && !Nat.beq s 1 with
    | true => .ret (.t x)
    | false => (cutT x.cells j (sizeOf cx t)).bind fun l => .ret (.t (.agg l))
  | false => (cutT x.cells j 1).bind fun l => match l with
    | [x] => .ret (.t x)
    | _ => .fail

def loadV (cx : Cx) (t : Nat) (s : Nat) (v : V) (j : Nat) : Q V :=
  match isStruct cx t with
  | true => match Nat.beq j 0 && Nat.beq (sizeOf cx t) s && !Nat.beq s 1 with
    | true => force v
    | false => (cutV v.cells j (sizeOf cx t)).bind fun l => force (mkAgg l)
  | false => (cutV v.cells j 1).bind fun l => match l with
    | [x] => .ret x
    | _ => .fail

/-- A field of a struct's cells. -/
def partV (cx : Cx) (t : Nat) (vs : List V) (off : Nat) : Q V :=
  match isStruct cx t with
  | true => (cutV vs off (sizeOf cx t)).bind fun l => force (mkAgg l)
  | false => (cutV vs off 1).bind fun l => match l with
    | [x] => .ret x
    | _ => .fail

def loadAt (cx : Cx) (t : Nat) (a : V) (H : Heap) : Q V := match a with
  | .ptr id i j => match nth H id with
    | some (.one s v _) => match i with
      | 0 => loadV cx t s v j
      | _ => .fail
    | some (.arr s xs _ _) => .get xs i fun x => loadT cx t s x j
    | _ => .fail
  | .t (.ip s x j) => loadT cx t s x j
  | _ => .fail

def putV (cx : Cx) (t : Nat) (s : Nat) (old : V) (j : Nat) (v : V) : Q V :=
  match isStruct cx t && Nat.beq j 0 && Nat.beq (sizeOf cx t) s && !Nat.beq s 1 with
  | true => force v
  | false => (cutV (over old.cells j v.cells) 0 s).bind fun l => match old with
    | .t (.agg _) => force (mkAgg l)
    | .agg _ => force (mkAgg l)
    | _ => match l with
      | [.t .any] => .fail
      | [v] => .ret v
      | _ => .fail

def putT (cx : Cx) (t : Nat) (s : Nat) (old : T) (j : Nat) (v : T) : Q T :=
  match isStruct cx t && Nat.beq j 0 && Nat.beq (sizeOf cx t) s && !Nat.beq s 1 with
  | true => .ret v
  | false => (cutT (over old.cells j v.cells) 0 s).bind fun l => match old with
    | .agg _ => .ret (.agg l)
    | _ => match l with
      | [.any] => .fail
      | [v] => .ret v
      | _ => .fail

def notAny : V → Bool
  | .t .any => false
  | _ => true

/-- Go on, if it is so. -/
def onlyIf {α : Type} (b : Bool) (q : Q α) : Q α := match b with
  | true => q
  | false => .fail

def fitsV (size s j : Nat) (v : V) : Bool := Nat.beq v.size size && Nat.ble (j + v.size) s && notAny v
def fitsT (size s j : Nat) (x : T) : Bool := Nat.beq x.cells.length size && Nat.ble (j + x.cells.length) s && notAny (.t x)

/-- Members, put in another form. -/
def normL {α : Type} (xs : List T) (k : List T → Q α) : Q α := .norm (.sl 0 xs) fun y => match y with
  | .sl _ ys => k ys
  | _ => .fail

def storeAt (cx : Cx) (t : Nat) (a : V) (v : V) (H : Heap) : Q Heap := match a with
  | .ptr id i j => match nth H id with
    | some (.one s old false) => match i with
      | 0 => match alive H v with
        | true => onlyIf (fitsV (sizeOf cx t) s j v) ((putV cx t s old j v).bind fun v => setH H id (.one s v false))
        | false => .fail
      | _ => .fail
    | some (.arr s _ _ false) => (toT v H).bind fun (x, H) => match nth H id with
      | some (.arr _ xs sp false) =>
        onlyIf (fitsT (sizeOf cx t) s j x) (match isStruct cx t && Nat.beq j 0 && Nat.beq (sizeOf cx t) s && !Nat.beq s 1 with
        | true => .want (i < xs.length) (normL (xs.set i x) fun zs => setH H id (.arr s zs sp false))
        | false => .get xs i fun old => (putT cx t s old j x).bind fun y => normL (xs.set i y) fun zs => setH H id (.arr s zs sp false))
      | _ => .fail
    | _ => .fail
  | _ => .fail

/-- The members that a slice has now. -/
def elems (es : Nat) (v : V) (H : Heap) : Option (List T) := match v with
  | .t (.sl s xs) => match Nat.beq s es with | true => some xs | false => none
  | .fit s xs => match Nat.beq s es with | true => some xs | false => none
  | .all id _ => match nth H id with
    | some (.arr s xs _ _) => match Nat.beq s es with | true => some xs | false => none
    | _ => none
  | .sl id off len _ => match nth H id with
    | some (.arr s xs _ _) => match Nat.beq s es with | true => some ((xs.drop off).take len) | false => none
    | _ => none
  | _ => none

def lenV (v : V) (H : Heap) : Option Nat := match v with
  | .t (.sl _ xs) => some xs.length
  | .fit _ xs => some xs.length
  | .all id _ => match nth H id with
    | some (.arr _ xs _ _) => some xs.length
    | _ => none
  | .sl id _ len _ => match nth H id with
    | some (.arr _ _ _ _) => some len
    | _ => none
  | .t (.str s) => some s.size
  | _ => none

/-- An index: a number that is not below 0. -/
def idx {α : Type} (v : V) (k : Nat → Q α) : Q α := match v with
  | .t (.int _ n) => .want (0 ≤ n) (.nat n.toNat k)
  | _ => .fail

def optIdx {α : Type} (v : Option V) (d : Nat) (k : Nat → Q α) : Q α := match v with
  | some v => idx v k
  | none => k d

/-- Is there room behind the members? -/
inductive Rm where
  | no | full | more (k : Nat)

def spL {α : Type} (lim sp : Option Nat) (g : Rm → Q α) : Q α := match lim with
  | some _ => g .no
  | none => match sp with
    | none => g .no
    | some k => .test (decide (k = 0)) fun z => match z with
      | true => g .full
      | false => g (.more k)

/-- 'xs[l:h]' or 'xs[l:h:m]' of an object's members. -/
def sliceOwn (es id off len : Nat) (lim : Option Nat) (H : Heap) (lo hi mx : Option V) : Q (V × Heap) := match nth H id with
  | some (.arr s xs sp ro) => match Nat.beq s es with
   | false => .fail
   | true => optIdx lo 0 fun l => optIdx hi len fun h =>
    let plain (lim : Option Nat) : Q (V × Heap) := .nat (off + l) fun o => .nat (h - l) fun n => .ret (.sl id o n lim, H)
    match mx with
    | some m => idx m fun m => .want (l ≤ h ∧ h ≤ m ∧ m ≤ len) (.nat (off + m) fun t => plain (some t))
    | none => spL lim sp fun rm => match lim, rm with
      | none, .more k => .want (l ≤ h ∧ off + h ≤ xs.length + k) (.test (decide (off + h ≤ xs.length)) fun b => match b with
        | true => plain lim
        | false => match ro with
          | true => .fail
          | false => (setH H id .dead).bind fun H => (alloc (.arr s (xs ++ List.replicate k .any) (some 0) false) H).bind fun (i, H) => .nat (off + l) fun o => .nat (h - l) fun n => .ret (.sl i o n none, H))
      | some t, _ => .want (l ≤ h ∧ off + h ≤ t ∧ t ≤ xs.length) (plain lim)
      | none, .full => .want (l ≤ h ∧ off + h ≤ xs.length) (plain lim)
      | none, .no => .want (l ≤ h ∧ h ≤ len) (plain lim)
  | _ => .fail

def sliceTree (s : Nat) (xs : List T) (lo hi mx : Option V) : Q V := optIdx lo 0 fun l => optIdx hi xs.length fun h => match mx with
  | some m => idx m fun m => .want (l ≤ h ∧ h = m ∧ h ≤ xs.length) (.norm (.sl s ((xs.drop l).take (h - l))) fun x => match x with
    | .sl s xs => .ret (.fit s xs)
    | _ => .fail)
  | none => .want (l ≤ h ∧ h ≤ xs.length) (.norm (.sl s ((xs.drop l).take (h - l))) fun x => .ret (.t x))

def sliceV (es : Nat) (v : V) (H : Heap) (lo hi mx : Option V) : Q (V × Heap) := match v with
  | .t (.sl s xs) => match Nat.beq s es with | true => (sliceTree s xs lo hi mx).bind fun v => .ret (v, H) | false => .fail
  | .fit s xs => match Nat.beq s es with | true => (sliceTree s xs lo hi mx).bind fun v => .ret (v, H) | false => .fail
  | .all id lim => match nth H id with
    | some (.arr _ xs _ _) => sliceOwn es id 0 xs.length lim H lo hi mx
    | _ => .fail
  | .sl id off len lim => sliceOwn es id off len lim H lo hi mx
  | _ => .fail

def indexV (es : Nat) (v i : V) (H : Heap) : Q V := match v with
  | .t (.sl s xs) => match Nat.beq s es with | true => idx i fun i => .get xs i fun x => .ret (.t (.ip s x 0)) | false => .fail
  | .fit s xs => match Nat.beq s es with | true => idx i fun i => .get xs i fun x => .ret (.t (.ip s x 0)) | false => .fail
  | .all id _ => match nth H id with
    | some (.arr s xs _ _) => match Nat.beq s es with | true => idx i fun i => .want (i < xs.length) (.ret (.ptr id i 0)) | false => .fail
    | _ => .fail
  | .sl id off len _ => match nth H id with
    | some (.arr s _ _ _) => match Nat.beq s es with | true => idx i fun i => .want (i < len) (.nat (off + i) fun i => .ret (.ptr id i 0)) | false => .fail
    | _ => .fail
  | _ => .fail

def appendMax : Nat := 2 ^ 47


/-- No members yet: an object without a block. -/
def ownV (v : V) (H : Heap) : Q (V × Heap) := match v with
  | .fit s [] => match Nat.blt 0 s with
    | true => (alloc (.arr s [] none false) H).bind fun (i, H) => .ret (.all i none, H)
    | false => .ret (.fit s [], H)
  | v => .ret (v, H)

def ownL (own : List Nat) : List Nat → List V → Heap → Q (List V × Heap)
  | t :: ts, v :: vs, H => match mem own t with
    | true => (ownV v H).bind fun (v, H) => (ownL own ts vs H).bind fun (vs, H) => .ret (v :: vs, H)
    | false => (ownL own ts vs H).bind fun (vs, H) => .ret (v :: vs, H)
  | _, vs, H => .ret (vs, H)

/-- A slice from an object's beginning on becomes an object of its own. -/
def tidyV (v : V) (H : Heap) : Q (V × Heap) := match v with
  | .all id none => match nth H id with
    | some (.arr s xs _ false) => (setH H id .dead).bind fun H => (alloc (.arr s xs none false) H).bind fun (i, H) => .ret (.all i none, H)
    | _ => .fail
  | .sl id off len none => match nth H id, Nat.beq off 0 with
    | some (.arr s xs _ false), true => normL (xs.take len) fun zs => (setH H id .dead).bind fun H => (alloc (.arr s zs none false) H).bind fun (i, H) => .ret (.all i none, H)
    | _, _ => .fail
  | v => ownV v H

def tidyL : List V → Heap → Q (List V × Heap)
  | [], H => .ret ([], H)
  | v :: vs, H => (tidyV v H).bind fun (v, H) => (tidyL vs H).bind fun (vs, H) => .ret (v :: vs, H)

def tidyR (b : Bool) (vs : List V) (H : Heap) : Q (List V × Heap) := match b with
  | true => tidyL vs H
  | false => .ret (vs, H)

/-- The first objects, as far as they are rows, are no more. -/
def killO : Ob → Ob
  | .arr _ _ _ _ => .dead
  | o => o

def killK : Nat → Heap → Heap
  | 0, H => H
  | _ + 1, [] => []
  | n + 1, o :: r => killO o :: killK n r

def killR (b : Bool) (n : Nat) (H : Heap) : Heap := match b with
  | true => killK n H
  | false => H

def room (n bytes : Nat) : Prop := n * bytes ≤ appendMax ∧ n ≤ appendMax

/-- An object gives way to a longer one. -/
def renew (id s : Nat) (xs : List T) (bytes : Nat) (H : Heap) : Q (V × Heap) := normL xs fun xs =>
  .want (room xs.length bytes) ((setH H id .dead).bind fun H => (alloc (.arr s xs none false) H).bind fun (i, H) => .ret (.all i none, H))

/-- A new object of some members. -/
def anew (s : Nat) (zs : List T) (bytes : Nat) (H : Heap) : Q (V × Heap) := normL zs fun zs => .want (room zs.length bytes) ((alloc (.arr s zs none false) H).bind fun (i, H) => .ret (.all i none, H))

/-- Members are laid into an object that has room for them. -/
def inPlace (id s off len : Nat) (xs ys : List T) (sp lim : Option Nat) (ro : Bool) (H : Heap) : Q (V × Heap) := match ro with
  | true => .fail
  | false => normL (xs.take (off + len) ++ ys ++ xs.drop (off + len + ys.length)) fun zs => (setH H id (.arr s zs sp false)).bind fun H => .nat (len + ys.length) fun n => .ret (.sl id off n lim, H)

/-- 'ys' behind a slice. -/
def appendV (es bytes : Nat) (v : V) (ys : List T) (H : Heap) : Q (V × Heap) :=
  match v with
  | .fit s [] => match Nat.beq s es with | true => anew s ys bytes H | false => .fail
  | .fit s xs => match Nat.beq s es with | true => .want (ys ≠ []) (anew s (xs ++ ys) bytes H) | false => .fail
  | .all id none => match nth H id with
    | some (.arr s xs _ false) => match Nat.beq s es with | true => renew id s (xs ++ ys) bytes H | false => .fail
    | _ => .fail
  | .sl id off len lim => match nth H id with
    | some (.arr s xs sp ro) => match Nat.beq s es with
      | false => .fail
      | true => spL lim sp fun rm => match lim, rm with
        | some t, _ => .test (decide (off + len + ys.length ≤ t)) fun b => match b with
          | true => .want (t ≤ xs.length) (inPlace id s off len xs ys sp lim ro H)
          | false => anew s ((xs.drop off).take len ++ ys) bytes H
        | none, .full => .test (decide (off + len + ys.length ≤ xs.length)) fun b => match b with
          | true => inPlace id s off len xs ys sp lim ro H
          | false => anew s ((xs.drop off).take len ++ ys) bytes H
        | none, _ => match ro with
          | true => .fail
          | false => .want (off = 0 ∧ len = xs.length) (renew id s (xs ++ ys) bytes H)
    | _ => .fail
  | _ => .fail

/-- Members of an object are written over, as far as they go. -/
def writeOver (es id off len : Nat) (ys : List T) (H : Heap) : Q (V × Heap) := match nth H id with
  | some (.arr s xs sp false) => match Nat.beq s es with
    | true => .nat (min ys.length len) fun n =>
      normL (xs.take off ++ ys.take n ++ xs.drop (off + n)) fun zs => (setH H id (.arr s zs sp false)).bind fun H => .ret (.t (.int .i64 n), H)
    | false => .fail
  | _ => .fail

def copyV (es : Nat) (d : V) (ys : List T) (H : Heap) : Q (V × Heap) :=
  match d with
  | .all id _ => match nth H id with
    | some (.arr _ xs _ _) => writeOver es id 0 xs.length ys H
    | _ => .fail
  | .sl id off len _ => writeOver es id off len ys H
  | _ => .fail

def capOwn (id off : Nat) (lim : Option Nat) (H : Heap) : Q (V × Heap) := match nth H id with
  | some (.arr s xs sp ro) => match lim, sp with
    | some l, _ => .want (xs ≠ []) (.nat (l - off) fun n => .ret (.t (.int .i64 n), H))
    | none, some k => .nat (xs.length + k - off) fun n => .ret (.t (.int .i64 n), H)
    | none, none => .cap xs.length fun c => (setH H id (.arr s xs (some (c - xs.length)) ro)).bind fun H => .nat (c - off) fun n => .ret (.t (.int .i64 n), H)
  | _ => .fail

def capV (v : V) (H : Heap) : Q (V × Heap) :=
  match v with
  | .t (.sl _ xs) => .cap xs.length fun c => .ret (.t (.int .i64 c), H)
  | .fit _ xs => .nat xs.length fun n => .ret (.t (.int .i64 n), H)
  | .all id lim => capOwn id 0 lim H
  | .sl id off _ lim => capOwn id off lim H
  | _ => .fail

def isBool (cx : Cx) (t : Nat) : Bool := match cx.ti.get t with
  | some i => match i.ty with | .bool => true | _ => false
  | none => false

def isInt (cx : Cx) (t : Nat) : Bool := match cx.ti.get t with
  | some i => match i.ty with | .int _ => true | _ => false
  | none => false

def isPtr (cx : Cx) (t : Nat) : Bool := match cx.ti.get t with
  | some i => match i.ty with | .ptr => true | _ => false
  | none => false

noncomputable def teq (x y : T) : Bool := @decide (x = y) (Classical.propDecidable _)

/-- A tree is what a comparable type without addresses holds. -/
def conformF (cx : Cx) (c : Nat → T → Bool) : Nat → List (Nat × Nat) → List T → Bool
  | _, [], [] => true
  | _, [], _ :: _ => false
  | pos, (off, t) :: fs, vs => Nat.beq off pos && match isStruct cx t with
    | true => Nat.ble (sizeOf cx t) vs.length && c t (.agg (vs.take (sizeOf cx t))) && conformF cx c (pos + sizeOf cx t) fs (vs.drop (sizeOf cx t))
    | false => match vs with
      | x :: vs => c t x && conformF cx c (pos + 1) fs vs
      | [] => false

def conform (cx : Cx) : Nat → Nat → T → Bool
  | 0, _, _ => false
  | n + 1, t, x => match cx.ti.get t with
    | some i => match i.ty, x with
      | .int k, .int k' _ => decide (k = k')
      | .bool, .bool _ => true
      | .struct fs, .agg vs => i.eq && conformF cx (conform cx n) 0 fs vs
      | _, _ => false
    | none => false


def elemTy (cx : Cx) (t : Nat) : Option Nat := match cx.ti.get t with
  | some { ty := .slice e, .. } => some e
  | _ => none

/-- Is a slice nil? What has no members may be so, or not. -/
def isNil (v : V) (k : Bool → Q V) : Q V := match v with
  | .nil => k true
  | .t (.sl _ xs) => .cap 0 fun c => k (decide (c = 0 ∧ xs.length = 0))
  | .fit _ xs => .cap 0 fun c => k (decide (c = 0 ∧ xs.length = 0))
  | .all _ _ => .cap 0 fun c => k (decide (c = 0))
  | .sl _ _ _ _ => .cap 0 fun c => k (decide (c = 0))
  | _ => .fail

def nilSl (cx : Cx) (op : BinOp) (ty : Nat) (x y : V) : Q V := match y, elemTy cx ty with
  | .nil, some _ => match op with
    | .eql => isNil x fun b => .ret (.t (.bool b))
    | .neq => isNil x fun b => .ret (.t (.bool (!b)))
    | _ => .fail
  | _, _ => .fail

def nilCmp (cx : Cx) (ty : Nat) (op : BinOp) (b : Bool) : Q V := match isPtr cx ty with
  | true => match op with
    | .eql => .ret (.t (.bool b))
    | .neq => .ret (.t (.bool (!b)))
    | _ => .fail
  | false => .fail

noncomputable def binV (cx : Cx) (op : BinOp) (ty : Nat) (x y : V) : Q V := match x, y with
  | .t (.int k a), .t (.int k' b) => match op with
    | .shl => .want (0 ≤ b) (.num k (a * 2 ^ (min b.toNat k.bits)) fun n => .ret (.t (.int k n)))
    | .shr => .want (0 ≤ b) (.norm (.int k (a.fdiv (2 ^ (min b.toNat k.bits)))) fun x => .ret (.t x))
    | _ => match decide (k = k') with
      | false => .fail
      | true => match op with
        | .add => .num k (a + b) fun n => .ret (.t (.int k n))
        | .sub => .num k (a - b) fun n => .ret (.t (.int k n))
        | .mul => .num k (a * b) fun n => .ret (.t (.int k n))
        | .quo => .want (b ≠ 0) (.num k (a.tdiv b) fun n => .ret (.t (.int k n)))
        | .rem => .want (b ≠ 0) (.norm (.int k (a.tmod b)) fun x => .ret (.t x))
        | .and => .num k (BitVec.ofInt k.bits a &&& BitVec.ofInt k.bits b).toNat fun n => .ret (.t (.int k n))
        | .or => .num k (BitVec.ofInt k.bits a ||| BitVec.ofInt k.bits b).toNat fun n => .ret (.t (.int k n))
        | .xor => .num k (BitVec.ofInt k.bits a ^^^ BitVec.ofInt k.bits b).toNat fun n => .ret (.t (.int k n))
        | .andNot => .num k (BitVec.ofInt k.bits a &&& ~~~BitVec.ofInt k.bits b).toNat fun n => .ret (.t (.int k n))
        | .eql => .ret (.t (.bool (a == b)))
        | .neq => .ret (.t (.bool (a != b)))
        | .lss => .ret (.t (.bool (decide (a < b))))
        | .leq => .ret (.t (.bool (decide (a ≤ b))))
        | .gtr => .ret (.t (.bool (decide (a > b))))
        | .geq => .ret (.t (.bool (decide (a ≥ b))))
        | _ => .fail
  | .t (.bool a), .t (.bool b) => match op with
    | .eql => .want (isBool cx ty = true) (.ret (.t (.bool (a == b))))
    | .neq => .want (isBool cx ty = true) (.ret (.t (.bool (!(a == b)))))
    | _ => .fail
  | .t (.agg xs), .t (.agg ys) => match op with
    | .eql => .want (conform cx depth ty (.agg xs) = true ∧ conform cx depth ty (.agg ys) = true) (.ret (.t (.bool (teq (.agg xs) (.agg ys)))))
    | .neq => .want (conform cx depth ty (.agg xs) = true ∧ conform cx depth ty (.agg ys) = true) (.ret (.t (.bool (!(teq (.agg xs) (.agg ys))))))
    | _ => .fail
  | .t .nilp, .t .nilp => nilCmp cx ty op true
  | .t .nilp, .ptr _ _ _ => nilCmp cx ty op false
  | .t .nilp, .t (.ip _ _ _) => nilCmp cx ty op false
  | .ptr _ _ _, .t .nilp => nilCmp cx ty op false
  | .t (.ip _ _ _), .t .nilp => nilCmp cx ty op false
  | x, y => nilSl cx op ty x y

def unV (op : UnOp) (x : V) : Q V := match op, x with
  | .neg, .t (.int k n) => .num k (0 - n) fun n => .ret (.t (.int k n))
  | .xor, .t (.int k n) => .num k (BitVec.ofInt k.bits (if k.signed then -1 else k.max) ^^^ BitVec.ofInt k.bits n).toNat fun n => .ret (.t (.int k n))
  | .not, .t (.bool b) => .ret (.t (.bool (!b)))
  | _, _ => .fail

def intTy (cx : Cx) (t : Nat) : Option IntKind := match cx.ti.get t with
  | some { ty := .int k, .. } => some k
  | _ => none

def fieldAt (cx : Cx) (t f : Nat) : Option (Nat × Nat) := match cx.ti.get t with
  | some { ty := .struct fs, .. } => nth fs f
  | _ => none

def args (cx : Cx) (e : Env) : List Operand → List Nat → Q (List V)
  | x :: xs, t :: ts => (typed cx t (evalO e x)).bind fun v => (args cx e xs ts).bind fun l => .ret (v :: l)
  | [], _ => .ret []
  | x :: xs, [] => (force (evalO e x)).bind fun v => (args cx e xs []).bind fun l => .ret (v :: l)

def fill (cx : Cx) (e : Env) (H : Heap) (fs : List (Nat × Nat)) : List (Nat × Operand) → List V → Q (List V)
  | [], cs => .ret cs
  | (i, x) :: r, cs => match nth fs i with
    | some (off, t) => (typed cx t (evalO e x)).bind fun v => match Nat.beq v.size (sizeOf cx t) && Nat.ble (off + v.size) cs.length && alive H v with
      | true => match v with
        | .t .any => .fail
        | v => fill cx e H fs r (over cs off v.cells)
      | false => .fail
    | none => .fail

def partsAt : Nat → List (Nat × Operand) → Option (List Operand)
  | _, [] => some []
  | n, (i, x) :: r => match Nat.beq i n, partsAt (n + 1) r with
    | true, some l => some (x :: l)
    | _, _ => none

def sameOp : Operand → Operand → Bool
  | .tmp a, .tmp b => Nat.beq a b
  | _, _ => false

def minI (a b : Int) : Int := if b < a then b else a
def maxI (a b : Int) : Int := if b > a then b else a

def foldI (f : Int → Int → Int) (k : IntKind) : Int → List V → Q V
  | n, [] => .norm (.int k n) fun x => .ret (.t x)
  | n, .t (.int k' m) :: r => match decide (k = k') with | true => foldI f k (f n m) r | false => .fail
  | _, _ => .fail

/-- A slice that lies apart from all that may be written. -/
def isTreeSl (es : Nat) : V → Bool
  | .fit s _ => Nat.beq s es
  | .t (.sl s _) => Nat.beq s es
  | _ => false

def isOwnSl (H : Heap) : V → Bool
  | .all id _ => match nth H id with | some (.arr _ _ _ false) => true | _ => false
  | .sl id _ _ _ => match nth H id with | some (.arr _ _ _ false) => true | _ => false
  | _ => false

def extV (cx : Cx) (x : Xf) (vs : List V) (H : Heap) : Q (V × Heap) := match x, vs with
  | .overlaps t, [a, b] => match elemTy cx t with
    | some el => match isTreeSl (sizeOf cx el) a && isOwnSl H b with
      | true => .ret (.t (.bool false), H)
      | false => .fail
    | none => .fail
  | _, _ => .fail

def lenTy (cx : Cx) (t : Nat) : V → Bool
  | .t (.str _) => match cx.ti.get t with
    | some { ty := .str, .. } => true
    | _ => false
  | _ => (elemTy cx t).isSome

def builtinV (cx : Cx) (b : Builtin) (ts : List Nat) (vs : List V) (H : Heap) : Q (V × Heap) := match b, vs with
  | .len, [v] => match ts with
    | [t] => match lenTy cx t v, lenV v H with
      | true, some n => .nat n fun n => .ret (.t (.int .i64 n), H)
      | _, _ => .fail
    | _ => .fail
  | .cap, [v] => match ts with
    | [t] => match elemTy cx t with
      | some _ => capV v H
      | none => .fail
    | _ => .fail
  | .append, [s, x] => match ts with
    | [t, t'] => match elemTy cx t with
      | some e => match x with
        | .t (.int _ n) => match isInt cx t', zeroV cx depth e with
          | true, some z => (toT z H).bind fun (z, H) => .want (0 ≤ n ∧ room n.toNat (bytesOf cx e)) (.nat n.toNat fun n => appendV (sizeOf cx e) (bytesOf cx e) s (List.replicate n z) H)
          | _, _ => .fail
        | x => match Nat.beq t t', elems (sizeOf cx e) x H with
          | true, some ys => .want (0 < bytesOf cx e) (.norm (.sl 0 ys) fun y => match y with
            | .sl _ ys => appendV (sizeOf cx e) (bytesOf cx e) s ys H
            | _ => .fail)
          | _, _ => .fail
      | none => .fail
    | _ => .fail
  | .clear, [d] => match ts with
    | [t] => match elemTy cx t with
      | some e => match zeroV cx depth e with
        | some z => (toT z H).bind fun (z, H) => match lenV d H with
          | some n => (copyV (sizeOf cx e) d (List.replicate n z) H).bind fun (_, H) => .ret (.tup [], H)
          | none => .fail
        | none => .fail
      | none => .fail
    | _ => .fail
  | .copy, [d, x] => match ts with
    | [t, _] => match elemTy cx t with
      | some e => match elems (sizeOf cx e) x H with
        | some ys => copyV (sizeOf cx e) d ys H
        | none => .fail
      | none => .fail
    | _ => .fail
  | .min, .t (.int k n) :: r => (foldI minI k n r).bind fun v => .ret (v, H)
  | .max, .t (.int k n) :: r => (foldI maxI k n r).bind fun v => .ret (v, H)
  | _, _ => .fail

def sizesOk (H : Heap) (s : Nat) : List V → Bool
  | [] => true
  | v :: r => Nat.beq v.size s && alive H v && notAny v && sizesOk H s r

/-- A variable of its own. -/
def newOne (cx : Cx) (t : Nat) (v : V) (H : Heap) : Q (V × Heap) := match v, Nat.beq v.size (sizeOf cx t) && alive H v with
  | .t .any, _ => .fail
  | v, true => (litN (sizeOf cx t)).bind fun s => (alloc (.one s v false) H).bind fun (i, H) => .ret (.ptr i 0 0, H)
  | _, false => .fail

-- has a type no addresses?
mutual
def flatTy (cx : Cx) : Nat → Nat → Bool
  | 0, _ => false
  | n + 1, t => match cx.ti.get t with
    | some i => match i.ty with
      | .int _ => true
      | .bool => true
      | .str => true
      | .struct fs => flatTys cx n fs
      | _ => false
    | none => false
def flatTys (cx : Cx) : Nat → List (Nat × Nat) → Bool
  | 0, _ => false
  | _ + 1, [] => true
  | n + 1, (_, t) :: r => flatTy cx n t && flatTys cx n r
end

/-- There is such a function. -/
def isFnB (cx : Cx) (f : Nat) : Bool := match cx.fn.get f with
  | some (some _) => true
  | _ => false

noncomputable def opQ (cx : Cx) (o : Oper) (e : Env) (H : Heap) : Q (V × Heap) :=
  let pure (q : Q V) : Q (V × Heap) := q.bind fun v => .ret (v, H)
  match o.op with
  | .move x => pure (typed cx o.type (evalO e x))
  | .assign x => pure (typed cx o.type (evalO e x))
  | .pick c a b => match evalO e c with
    | .t (.bool c) => .test c fun c => match c with
      | true => pure (force (evalO e a))
      | false => pure (force (evalO e b))
    | _ => .fail
  | .alloc t => match zeroV cx depth t with
    | some z => (force z).bind fun z => newOne cx t z H
    | none => .fail
  | .box t x => (typed cx t (evalO e x)).bind fun v => newOne cx t v H
  | .build t parts => match zeroV cx depth t, cx.ti.get t with
    | some z, some { ty := .struct fs, .. } => (fill cx e H fs parts.toList z.cells).bind fun cs => (cutV cs 0 (sizeOf cx t)).bind fun cs => pure (force (mkAgg cs))
    | _, _ => .fail
  | .buildSlice t len parts => match elemTy cx t, partsAt 0 parts.toList with
    | some el, some xs => match Nat.beq len xs.length && Nat.ble (len * sizeOf cx el) 16777216 with
      | true => (litN (sizeOf cx el)).bind fun s => (args cx e xs (xs.map fun _ => el)).bind fun vs => match sizesOk H (sizeOf cx el) vs with
        | true => match flatTy cx depth el with
          | true => match allT vs with
            | some xs => .ret (.fit s xs, H)
            | none => .fail
          | false => (toTs vs H).bind fun (xs, H) => .ret (.fit s xs, H)
        | false => .fail
      | false => .fail
    | _, _ => .fail
  | .load t a => pure (loadAt cx t (evalO e a) H)
  | .store t a x => (typed cx t (evalO e x)).bind fun v => (storeAt cx t (evalO e a) v H).bind fun H => .ret (.tup [], H)
  | .nilCheck x => match evalO e x with
    | .ptr i j k => match nth H i with
      | some (.one _ _ _) => .ret (.ptr i j k, H)
      | some (.arr _ _ _ _) => .ret (.ptr i j k, H)
      | _ => .fail
    | .t (.ip s x j) => .ret (.t (.ip s x j), H)
    | .t (.clo f cs) => .ret (.t (.clo f cs), H)
    | .clo f cs => .ret (.clo f cs, H)
    | _ => .fail
  | .binOp op t x y _ => match alive H (evalO e x) && alive H (evalO e y) with
    | true => pure (binV cx op t (evalO e x) (evalO e y))
    | false => .fail
  | .unOp op _ x => pure (unV op (evalO e x))
  | .convert _ dst x => match evalO e x, intTy cx dst with
    | .t (.int _ n), some k => .num k n fun n => .ret (.t (.int k n), H)
    | _, _ => .fail
  | .makeFunc (.func f) first captured => match first.toList with
    | [] => (args cx e captured.toList []).bind fun vs => match allT vs with
      | some l => .ret (.t (.clo f l), H)
      | none => .ret (.clo f vs, H)
    | _ => .fail
  | .makeSlice t l c => match elemTy cx t with
    | some el => match zeroV cx depth el, evalO e l, evalO e c with
      | some z, .t (.int _ n), .t (.int _ m) => (toT z H).bind fun (z, H) =>
        .want (0 ≤ n ∧ n ≤ m ∧ room m.toNat (bytesOf cx el)) (.nat m.toNat fun m => (litN (sizeOf cx el)).bind fun s => (alloc (.arr s (List.replicate m z) (some 0) false) H).bind fun (i, H) =>
          match sameOp l c with
          | true => .ret (.all i none, H)
          | false => .nat n.toNat fun n => .ret (.sl i 0 n none, H))
      | _, _, _ => .fail
    | none => .fail
  | .slice t x lo hi mx => match mx, hi with
   | some _, none => .fail
   | _, _ => match elemTy cx t with
    | some el => (typed cx t (evalO e x)).bind fun v => sliceV (sizeOf cx el) v H (lo.map (evalO e)) (hi.map (evalO e)) (mx.map (evalO e))
    | none => .fail
  | .fieldAddr t a f => match fieldAt cx t f, evalO e a with
    | some (off, ft), .ptr id i j => match nth H id, Nat.beq (sizeOf cx ft) 0 with
      | some (.one _ _ _), false => (litN (j + off)).bind fun j => .ret (.ptr id i j, H)
      | some (.arr _ _ _ _), false => (litN (j + off)).bind fun j => .ret (.ptr id i j, H)
      | _, _ => .fail
    | some (off, ft), .t (.ip s x j) => match Nat.beq (sizeOf cx ft) 0 with
     | true => .fail
     | false => (litN (j + off)).bind fun j => .ret (.t (.ip s x j), H)
    | _, _ => .fail
  | .field t x f => match fieldAt cx t f with
    | some (off, ft) => match evalO e x with
      | .t (.agg vs) => pure (partV cx ft (vs.map .t) off)
      | .agg vs => pure (partV cx ft vs off)
      | _ => .fail
    | none => .fail
  | .indexAddr t x i => match elemTy cx t with
    | some el => (typed cx t (evalO e x)).bind fun v => pure (indexV (sizeOf cx el) v (evalO e i) H)
    | none => .fail
  | .extract x i => match evalO e x with
    | .tup vs => match nth vs i with
      | some v => pure (force v)
      | none => .fail
    | _ => .fail
  | .call c => match c.callee with
    | .builtin b => (args cx e c.args.toList c.argTypes.toList).bind fun vs => builtinV cx b c.argTypes.toList vs H
    | .value (.func f) => match exAt cx.ex f with
      | some x => (args cx e c.args.toList c.argTypes.toList).bind fun vs => extV cx x vs H
      | none => (args cx e c.args.toList c.argTypes.toList).bind fun vs => callF cx f vs H
    | .value f => match evalO e f with
      | .t (.clo f cs) => .want (isFnB cx f = true) ((args cx e c.args.toList c.argTypes.toList).bind fun vs => pureCall f vs cs H)
      | .clo f cs => (args cx e c.args.toList c.argTypes.toList).bind fun vs => callF cx f (vs ++ cs) H
      | _ => .fail
    | _ => .fail
  | _ => .fail

def put (dst : Option Nat) (v : V) (e : Env) : Env := match dst with
  | some d => (d, v) :: e
  | none => e

def dstOf (all : List Oper) (j : Nat) : Option Nat := match nth all j with
  | some o => o.dst
  | none => none

noncomputable def stepQ (cx : Cx) (all : List Oper) (o : Oper) (e : Env) (H : Heap) : Q (Env × Heap) := match o.guard with
  | none => (opQ cx o e H).bind fun (v, H) => .ret (put o.dst v e, H)
  | some (j, w) => match dstOf all j with
    | some g => match look e g with
      | .t (.bool b) => .test b fun b => match b == w with
        | true => (opQ cx o ((g, .t (.bool b)) :: e) H).bind fun (v, H) => .ret (put o.dst v ((g, .t (.bool b)) :: e), H)
        | false => .ret (put o.dst (.tup []) ((g, .t (.bool b)) :: e), H)
      | .tup [] => .ret (put o.dst (.tup []) e, H)
      | _ => .fail
    | none => .fail

noncomputable def runOps (cx : Cx) (all : List Oper) : List Oper → Env → Heap → Q (Env × Heap)
  | [], e, H => .ret (e, H)
  | o :: r, e, H => (stepQ cx all o e H).bind fun (e, H) => runOps cx all r e H

noncomputable def ordQ (cx : Cx) (all : List Oper) : Ord → Env → Heap → Q (Env × Heap)
  | .done, e, H => .ret (e, H)
  | .one i r, e, H => match nth all i with
    | some o => (stepQ cx all o e H).bind fun (e, H) => ordQ cx all r e H
    | none => .fail
  | .two i r j s, e, H => match nth all i, nth all j with
    | some o, some p => .both ((stepQ cx all o e H).bind fun (e, H) => ordQ cx all r e H) ((stepQ cx all p e H).bind fun (e, H) => ordQ cx all s e H)
    | _, _ => .fail

def drawAt : List (Nat × Ord) → Nat → Option Ord
  | [], _ => none
  | (i, o) :: r, n => match Nat.beq i n with | true => some o | false => drawAt r n

/-- A part of the code, by the way to it (from its end to the root). -/
def subAt (c : Code) : List Nat → Option Code
  | [] => some c
  | d :: p => match subAt c p with
    | some (.seq a b) => match d with | 0 => some a | _ => some b
    | some (.cond _ a b) => match d with | 0 => some a | _ => some b
    | some (.block _ a) => some a
    | some (.loop a) => some a
    | _ => none

def eqL : List Nat → List Nat → Bool
  | [], [] => true
  | x :: a, y :: b => match Nat.beq x y with | true => eqL a b | false => false
  | _, _ => false

def liveAt : List (List Nat × List Nat) → List Nat → Option (List Nat)
  | [], _ => none
  | (q, l) :: r, p => match eqL q p with | true => some l | false => liveAt r p

def ownAt (fi : FI) (p : List Nat) : List Nat := match liveAt fi.own p with
  | some l => l
  | none => []

def looks (e : Env) : List Nat → Q (List V)
  | [] => .ret []
  | t :: r => (force (look e t)).bind fun v => (looks e r).bind fun l => .ret (v :: l)

def zipE : List Nat → List V → Env
  | t :: ts, v :: vs => (t, v) :: zipE ts vs
  | _, _ => []

noncomputable def exec (cx : Cx) (f : Nat) (fi : FI) (keep : Nat) : List Nat → Code → Env → Heap → Q (Ex × Env × Heap)
  | _, .skip, e, H => .ret (.normal, e, H)
  | _, .region id ops draw, e, H => match draw with
    | false => (runOps cx ops.toList ops.toList e H).bind fun (e, H) => .ret (.normal, e, H)
    | true => match drawAt fi.draws id with
      | some d => (ordQ cx ops.toList d e H).bind fun (e, H) => .ret (.normal, e, H)
      | none => .fail
  | p, .seq a b, e, H => (exec cx f fi keep (0 :: p) a e H).bind fun (x, e, H) => match x with
    | .normal => exec cx f fi keep (1 :: p) b e H
    | x => .ret (x, e, H)
  | p, .cond c a b, e, H => match evalO e c with
    | .t (.bool t) => .test t fun t => match t with
      | true => exec cx f fi keep (0 :: p) a e H
      | false => exec cx f fi keep (1 :: p) b e H
    | _ => .fail
  | p, .block id c, e, H => (exec cx f fi keep (0 :: p) c e H).bind fun (x, e, H) => match x with
    | .exit i => match Nat.beq i id with
      | true => .ret (.normal, e, H)
      | false => .ret (.exit i, e, H)
    | x => .ret (x, e, H)
  | p, .loop _, e, H => match liveAt fi.live p with
    | some live => (looks e live).bind fun vs => (ownL (ownAt fi p) live vs H).bind fun (vs, H) => (gc keep vs H).bind fun g => .ask (.loop f p keep g.vs g.H) fun r => .ret (r.e, zipE live r.vs, r.H)
    | none => .fail
  | _, .exit id, e, H => .ret (.exit id, e, H)
  | _, .ret, e, H => .ret (.ret, e, H)
  | _, _, _, _ => .fail

def resV (cx : Cx) (e : Env) (H : Heap) : List RV → Q (List V)
  | [] => .ret []
  | .tmp t :: r => (force (look e t)).bind fun v => (resV cx e H r).bind fun l => .ret (v :: l)
  | .cell a t :: r => (loadAt cx t (look e a) H).bind fun v => (resV cx e H r).bind fun l => .ret (v :: l)

noncomputable def body (cx : Cx) : Task → Q Res
  | .call f as H => match cx.fn.get f with
    | some (some fi) => (exec cx f fi H.length [] fi.code (zipE (upto 0 as.length) as) H).bind fun (x, e, H') => match x with
      | .exit _ => .fail
      | _ => (resV cx e H' fi.res).bind fun vs => match fi.mode with
        | .pure => match H with
          | [] => (forceN (reach H' 200 (idss vs) [])).bind fun l => (fzArgs l H' vs).bind fun ts => .ret ⟨.ret, ts.map .t, []⟩
          | _ => .fail
        | .fresh => match H with
          | [] => (tidyR fi.tidy vs H').bind fun (vs, H') => (gc 0 vs H').bind fun g => .ret ⟨.ret, g.vs, g.H⟩
          | _ => .fail
        | .inout => (tidyR fi.tidy vs H').bind fun (vs, H') => (gc H.length vs (killR fi.tidy H.length H')).bind fun g => .ret ⟨.ret, g.vs, g.H⟩
    | _ => .fail
  | .loop f p keep vs H => match cx.fn.get f with
    | some (some fi) => match subAt fi.code p, liveAt fi.live p with
      | some (.loop c), some live => (exec cx f fi keep (0 :: p) c (zipE live vs) H).bind fun (x, e, H) => (looks e live).bind fun vs => (ownL (ownAt fi p) live vs H).bind fun (vs, H) => (gc keep vs H).bind fun g => match x with
        | .normal => .ask (.loop f p keep g.vs g.H) fun r => .ret r
        | x => .ret ⟨x, g.vs, g.H⟩
      | _, _ => .fail
    | _ => .fail

/-- What is promised of a task: the least that the readings bear out. -/
def Ev (cx : Cx) (t : Task) (R : Res → Prop) : Prop := ∀ S : Task → (Res → Prop) → Prop, (∀ t R, wpQ S (body cx t) R → S t R) → S t R

theorem wpQ_mono {α : Type} {S S' : Task → (Res → Prop) → Prop} (h : ∀ t R, S t R → S' t R) (q : Q α) : ∀ R, wpQ S q R → wpQ S' q R := by
  induction q with
  | fail => exact fun _ h => h
  | ret a => exact fun _ h => h
  | ask t k ih => exact fun R ⟨R', h1, h0, h2⟩ => ⟨R', h _ _ h1, h0, fun x hx => ih x R (h2 x hx)⟩
  | test b k ih => exact fun R hq => ih _ R hq
  | num kd n k ih => exact fun R hq => ih _ R hq
  | get xs i k ih => exact fun R ⟨x, h1, h0, h2⟩ => ⟨x, h1, h0, ih x R h2⟩
  | norm x k ih => exact fun R hq => ih _ R hq
  | nat n k ih => exact fun R hq => ih _ R hq
  | cap lo k ih => exact fun R hq c hc => ih c R (hq c hc)
  | want p q ih => exact fun R ⟨h1, h2⟩ => ⟨h1, ih R h2⟩
  | both p q ih1 ih2 => exact fun R ⟨h1, h2⟩ => ⟨ih1 R h1, ih2 R h2⟩

theorem Ev.mk {cx : Cx} {t : Task} {R : Res → Prop} (h : wpQ (Ev cx) (body cx t) R) : Ev cx t R := by
  intro S hS
  refine hS _ _ (wpQ_mono (fun t R ht => ht S hS) _ _ h)

end Go.Eva

namespace Go.Eva.S1
open Go.Proofs
noncomputable def codeOf (f : Func) : Code := match f.body with | some c => c | none => .skip
noncomputable def tis : Tr TI :=
  (.n (.n (.n (.n (.n (.n (.n .z ⟨.fn, 1, 8, false⟩ .z) ⟨.fn, 1, 8, false⟩ (.n .z ⟨.fn, 1, 8, false⟩ .z)) ⟨.ptr, 1, 8, false⟩ (.n (.n .z ⟨.fn, 1, 8, false⟩ .z) ⟨.fn, 1, 8, false⟩ (.n
  .z ⟨.int .u8, 1, 1, false⟩ .z))) ⟨.struct [(0, 2), (1, 3), (2, 4), (3, 6)], 4, 24, false⟩ (.n (.n (.n .z ⟨.fn, 1, 8, false⟩ .z) ⟨.struct [(0, 36)], 5, 40, false⟩ (.n .z ⟨.fn, 1, 8,
  false⟩ .z)) ⟨.fn, 1, 8, false⟩ (.n (.n .z ⟨.fn, 1, 8, false⟩ .z) ⟨.struct [(0, 3), (1, 3), (2, 3), (3, 3), (4, 28), (13, 3), (14, 3)], 15, 120, true⟩ (.n .z ⟨.other, 1, 8, false⟩
  .z)))) ⟨.int .i64, 1, 8, false⟩ (.n (.n (.n (.n .z ⟨.fn, 1, 8, false⟩ .z) ⟨.struct [(0, 3), (1, 3), (2, 3), (3, 3), (4, 34)], 5, 40, false⟩ (.n .z ⟨.other, 1, 0, false⟩ .z))
  ⟨.struct [(0, 17)], 1, 8, false⟩ (.n (.n .z ⟨.fn, 1, 8, false⟩ .z) ⟨.slice 55, 1, 24, false⟩ (.n .z ⟨.int .i32, 1, 4, false⟩ .z))) ⟨.str, 1, 16, false⟩ (.n (.n (.n .z ⟨.fn, 1, 8,
  false⟩ .z) ⟨.fn, 1, 8, false⟩ (.h .z .z)) ⟨.struct [(0, 3), (1, 3), (2, 3), (3, 3), (4, 3), (5, 3), (6, 3), (7, 3), (8, 3)], 9, 72, false⟩ (.n (.n .z ⟨.fn, 1, 8, false⟩ .z) ⟨.fn,
  1, 8, false⟩ .z)))) ⟨.fn, 1, 8, false⟩ (.n (.n (.n (.n (.n .z ⟨.fn, 1, 8, false⟩ .z) ⟨.fn, 1, 8, false⟩ (.n .z ⟨.fn, 1, 8, false⟩ .z)) ⟨.ptr, 1, 8, false⟩ (.n (.n .z ⟨.fn, 1, 8,
  false⟩ .z) ⟨.fn, 1, 8, false⟩ (.n .z ⟨.fn, 1, 8, false⟩ .z))) ⟨.str, 1, 16, false⟩ (.n (.n (.n .z ⟨.fn, 1, 8, false⟩ .z) ⟨.other, 1, 0, false⟩ (.n .z ⟨.struct [(0, 17), (1, 17),
  (2, 17), (3, 9)], 4, 40, false⟩ .z)) ⟨.fn, 1, 8, false⟩ (.n (.n .z ⟨.fn, 1, 8, false⟩ .z) ⟨.fn, 1, 8, false⟩ .z))) ⟨.int .u8, 1, 1, false⟩ (.n (.n (.n (.n .z ⟨.fn, 1, 8, false⟩ .z)
  ⟨.fn, 1, 8, false⟩ (.n .z ⟨.fn, 1, 8, false⟩ .z)) ⟨.int .i32, 1, 4, false⟩ (.n (.n .z ⟨.fn, 1, 8, false⟩ .z) ⟨.fn, 1, 8, false⟩ (.n .z ⟨.struct [(0, 12), (1, 12), (2, 110), (3,
  111), (4, 5), (5, 5), (6, 112), (7, 113), (8, 114), (9, 115), (10, 116)], 11, 48, false⟩ .z))) ⟨.struct [(0, 9), (1, 12)], 2, 24, false⟩ (.n (.n (.n .z ⟨.fn, 1, 8, false⟩ .z)
  ⟨.slice 3, 1, 24, false⟩ (.h .z .z)) ⟨.fn, 1, 8, false⟩ (.n (.n .z ⟨.fn, 1, 8, false⟩ .z) ⟨.fn, 1, 8, false⟩ .z))))) ⟨.other, 1, 0, false⟩ (.n (.n (.n (.n (.n (.n .z ⟨.fn, 1, 8,
  false⟩ .z) ⟨.int .u64, 1, 8, false⟩ (.n .z ⟨.fn, 1, 8, false⟩ .z)) ⟨.ptr, 1, 8, false⟩ (.n (.n .z ⟨.fn, 1, 8, false⟩ .z) ⟨.fn, 1, 8, false⟩ (.n .z ⟨.int .u8, 1, 1, false⟩ .z)))
  ⟨.struct [(0, 2), (1, 3), (2, 4), (3, 6)], 4, 24, false⟩ (.n (.n (.n .z ⟨.fn, 1, 8, false⟩ .z) ⟨.int .i64, 1, 8, false⟩ (.n .z ⟨.fn, 1, 8, false⟩ .z)) ⟨.fn, 1, 8, false⟩ (.n (.n .z
  ⟨.fn, 1, 8, false⟩ .z) ⟨.fn, 1, 8, false⟩ .z))) ⟨.bool, 1, 1, false⟩ (.n (.n (.n (.n .z ⟨.fn, 1, 8, false⟩ .z) ⟨.struct [(0, 3), (1, 3), (2, 3), (3, 3), (4, 34)], 5, 40, true⟩ (.n
  .z ⟨.fn, 1, 8, false⟩ .z)) ⟨.other, 1, 16, false⟩ (.n (.n .z ⟨.fn, 1, 8, false⟩ .z) ⟨.fn, 1, 8, false⟩ (.n .z ⟨.int .i32, 1, 4, false⟩ .z))) ⟨.int .u64, 1, 8, false⟩ (.n (.n (.n .z
  ⟨.fn, 1, 8, false⟩ .z) ⟨.fn, 1, 8, false⟩ (.h .z .z)) ⟨.struct [(0, 3), (1, 3), (2, 3), (3, 3), (4, 3), (5, 3), (6, 3), (7, 3), (8, 3)], 9, 72, true⟩ (.n (.n .z ⟨.fn, 1, 8, false⟩
  .z) ⟨.fn, 1, 8, false⟩ .z)))) ⟨.int .i64, 1, 8, false⟩ (.n (.n (.n (.n (.n .z ⟨.fn, 1, 8, false⟩ .z) ⟨.int .u64, 1, 8, false⟩ (.n .z ⟨.fn, 1, 8, false⟩ .z)) ⟨.struct [(0, 17)], 1,
  8, false⟩ (.n (.n .z ⟨.slice 51, 1, 24, false⟩ .z) ⟨.fn, 1, 8, false⟩ (.n .z ⟨.ptr, 1, 8, false⟩ .z))) ⟨.str, 1, 16, false⟩ (.n (.n (.n .z ⟨.fn, 1, 8, false⟩ .z) ⟨.fn, 1, 8, false⟩
  (.n .z ⟨.struct [(0, 17), (1, 17), (2, 17), (3, 9)], 4, 40, false⟩ .z)) ⟨.fn, 1, 8, false⟩ (.n (.n .z ⟨.fn, 1, 8, false⟩ .z) ⟨.fn, 1, 8, false⟩ .z))) ⟨.int .u8, 1, 1, false⟩ (.n
  (.n (.n (.n .z ⟨.fn, 1, 8, false⟩ .z) ⟨.struct [(0, 36)], 5, 40, true⟩ (.n .z ⟨.fn, 1, 8, false⟩ .z)) ⟨.slice 28, 1, 24, false⟩ (.n (.n .z ⟨.fn, 1, 8, false⟩ .z) ⟨.struct [(0, 3),
  (1, 3), (2, 3), (3, 3), (4, 28), (13, 3), (14, 3)], 15, 120, true⟩ (.n .z ⟨.struct [(0, 12), (1, 12), (2, 110), (3, 111), (4, 5), (5, 5), (6, 112), (7, 113), (8, 114), (9, 115),
  (10, 116)], 11, 48, false⟩ .z))) ⟨.struct [(0, 9), (1, 12)], 2, 24, false⟩ (.n (.n (.n .z ⟨.fn, 1, 8, false⟩ .z) ⟨.fn, 1, 8, false⟩ (.n .z ⟨.int .u32, 1, 4, false⟩ .z)) ⟨.fn, 1, 8,
  false⟩ (.n (.n .z ⟨.fn, 1, 8, false⟩ .z) ⟨.fn, 1, 8, false⟩ .z))))))
/-- joust/joustlaw05.EntitySorted -/
noncomputable def fi3 : FI := ⟨codeOf Try.f3, [.tmp 2], .pure, [([0, 1, 0, 1, 1, 1, 1], [0, 2, 3, 4])], [(10, .one 0 (.one 1 (.one 2 (.one 3 (.one 4 (.one 5 (.one 6 (.one 7 (.one 8 (.one 9 (.one 10 (.one 11 (.one 12 (.one 14 (.one 15 (.one 16 (.one 17 (.one 13 (.one 18 (.one 19 (.one 20 (.one 21 (.one 22 (.one 23 (.one 24 (.one 25 (.one 26 (.one 30 (.one 31 (.one 32 (.one 33 (.one 27 (.one 34 (.one 28 (.one 29 (.one 35 (.one 36 (.one 37 (.done)))))))))))))))))))))))))))))))))))))))], [], false⟩
/-- joust/joustlaw05.EntityCounts -/
noncomputable def fi4 : FI := ⟨codeOf Try.f4, [.tmp 4], .pure, [([0, 1, 0, 1, 1, 1, 1], [1, 5, 6, 7])], [], [], false⟩
/-- joust/joustlaw05.EntityBounds -/
noncomputable def fi5 : FI := ⟨codeOf Try.f5, [.tmp 10], .pure, [], [(13, .one 0 (.one 2 (.one 1 (.one 3 (.done))))), (11, .one 0 (.one 2 (.one 1 (.one 3 (.done)))))], [], false⟩
/-- joust/joustlaw05.EntityTells -/
noncomputable def fi6 : FI := ⟨codeOf Try.f6, [.tmp 12], .pure, [([0, 1, 0, 1, 1, 1, 1, 1], [2, 3, 4, 5, 6, 7, 13, 15, 16, 17, 18])], [(10, .one 0 (.one 1 (.one 2 (.one 3 (.one 5 (.one 6 (.one 4 (.one 7 (.one 8 (.one 9 (.one 10 (.one 11 (.one 12 (.one 14 (.one 15 (.one 13 (.one 16 (.one 17 (.one 18 (.one 19 (.one 20 (.one 21 (.one 23 (.one 22 (.one 24 (.one 25 (.one 26 (.one 27 (.one 28 (.one 30 (.one 31 (.one 29 (.one 32 (.one 33 (.one 34 (.one 35 (.one 36 (.one 38 (.one 37 (.one 39 (.one 40 (.one 41 (.one 42 (.one 43 (.one 45 (.one 44 (.one 46 (.one 47 (.one 48 (.one 49 (.one 50 (.one 51 (.one 52 (.one 53 (.one 54 (.one 55 (.one 56 (.one 57 (.one 58 (.one 59 (.one 60 (.one 61 (.done)))))))))))))))))))))))))))))))))))))))))))))))))))))))))))))))], [], false⟩
/-- joust/joustlaw06.CrossSorts -/
noncomputable def fi7 : FI := ⟨codeOf Try.f7, [.tmp 4], .pure, [([0, 1, 0, 1, 1, 1, 1], [0, 4, 5, 6]), ([0, 1, 0, 1, 1, 1, 1, 1], [0, 4, 5, 7])], [(9, .one 0 (.one 1 (.one 2 (.one 4 (.one 5 (.one 6 (.one 7 (.one 3 (.one 8 (.one 9 (.one 10 (.one 11 (.one 12 (.one 13 (.one 15 (.one 16 (.one 17 (.one 14 (.one 18 (.one 19 (.one 20 (.done))))))))))))))))))))))], [], false⟩
/-- joust/joustlaw06.CrossOrder -/
noncomputable def fi8 : FI := ⟨codeOf Try.f8, [.tmp 6], .pure, [], [(1, .one 0 (.one 1 (.one 3 (.one 4 (.one 6 (.one 7 (.one 2 (.one 5 (.one 8 (.one 9 (.one 10 (.one 11 (.done)))))))))))))], [], false⟩
/-- joust/joustlaw06.CrossParts -/
noncomputable def fi9 : FI := ⟨codeOf Try.f9, [.tmp 2], .pure, [([0, 1, 0, 1, 1, 1], [0, 3, 4]), ([0, 1, 0, 1, 1, 1, 1, 1, 1], [6, 7, 8])], [], [([0, 1, 0, 1, 1, 1], [3]), ([0, 1, 0, 1, 1, 1, 1, 1, 1], [7])], false⟩
/-- joust/joustlaw06.CrossStable -/
noncomputable def fi10 : FI := ⟨codeOf Try.f10, [.tmp 4], .pure, [([0, 1, 0, 1, 1, 1], [0, 3, 5, 6])], [(8, .one 0 (.one 1 (.one 2 (.one 3 (.one 4 (.one 6 (.two 5 (.one 7 (.one 8 (.one 9 (.done)))) 7 (.one 5 (.one 8 (.one 9 (.done))))))))))), (11, .one 0 (.one 1 (.one 2 (.one 3 (.one 4 (.one 5 (.one 6 (.one 7 (.one 10 (.one 8 (.one 9 (.one 11 (.one 12 (.one 13 (.done)))))))))))))))], [([0, 1, 0, 1, 1, 1], [5])], false⟩
/-- joust/joustlaw06.CrossTells -/
noncomputable def fi11 : FI := ⟨codeOf Try.f11, [.tmp 12], .pure, [], [(6, .one 0 (.one 1 (.one 2 (.one 3 (.one 5 (.one 6 (.one 4 (.one 7 (.one 8 (.one 9 (.one 10 (.one 11 (.one 12 (.one 14 (.one 15 (.one 13 (.one 16 (.one 17 (.one 18 (.one 19 (.one 20 (.one 21 (.one 24 (.one 22 (.one 23 (.one 25 (.one 26 (.one 27 (.one 28 (.one 29 (.one 30 (.one 32 (.one 33 (.one 31 (.one 34 (.one 35 (.one 36 (.one 37 (.one 38 (.one 39 (.one 40 (.one 41 (.one 42 (.one 43 (.done)))))))))))))))))))))))))))))))))))))))))))))], [], false⟩
/-- joust/joustlaw06.CrossNear -/
noncomputable def fi12 : FI := ⟨codeOf Try.f12, [.tmp 4], .pure, [], [(5, .one 1 (.one 4 (.one 0 (.one 2 (.one 5 (.one 3 (.one 6 (.one 7 (.done))))))))), (8, .one 0 (.one 1 (.one 2 (.one 3 (.one 4 (.one 5 (.one 6 (.one 7 (.one 9 (.one 8 (.one 10 (.one 11 (.one 12 (.one 13 (.one 15 (.one 16 (.one 18 (.one 19 (.one 22 (.one 14 (.one 17 (.one 20 (.one 23 (.one 21 (.one 24 (.one 25 (.one 26 (.done))))))))))))))))))))))))))))], [], false⟩
/-- joust/joustlaw05.awake -/
noncomputable def fi13 : FI := ⟨codeOf Try.f13, [.tmp 0], .pure, [], [], [], false⟩
/-- joust/entity.Put -/
noncomputable def fi14 : FI := ⟨codeOf Try.f14, [.tmp 4], .fresh, [([0, 1, 0, 1, 1], [5, 11, 12, 13])], [], [([0, 1, 0, 1, 1], [5])], true⟩
/-- joust/entity.Sorted -/
noncomputable def fi15 : FI := ⟨codeOf Try.f15, [.tmp 2], .pure, [([0, 1, 0, 1], [0, 2, 5, 6])], [(4, .one 0 (.one 1 (.one 2 (.one 3 (.one 4 (.one 5 (.one 6 (.one 8 (.one 9 (.one 10 (.one 11 (.one 12 (.one 7 (.one 13 (.one 14 (.one 15 (.done)))))))))))))))))], [], false⟩
/-- joust/entity.Find -/
noncomputable def fi16 : FI := ⟨codeOf Try.f16, [.tmp 4], .pure, [], [], [], false⟩
/-- joust/entity.Drop -/
noncomputable def fi17 : FI := ⟨codeOf Try.f17, [.tmp 4], .fresh, [], [], [], true⟩
/-- joust/jousthelp.Plain[joust/api.Entity] -/
noncomputable def fi18 : FI := ⟨codeOf Try.f18, [.tmp 4], .pure, [], [], [], false⟩
/-- joust/entity.Things -/
noncomputable def fi19 : FI := ⟨codeOf Try.f19, [.tmp 2], .pure, [([0, 1, 0, 1, 1], [3, 6, 7, 8])], [], [], false⟩
/-- joust/joustplay.Config -/
noncomputable def fi20 : FI := ⟨codeOf Try.f20, [.cell 2 36], .pure, [], [], [], false⟩
/-- joust/grid.New -/
noncomputable def fi21 : FI := ⟨codeOf Try.f21, [.cell 2 39, .tmp 3], .pure, [], [], [], false⟩
/-- joust/entity.Right -/
noncomputable def fi22 : FI := ⟨codeOf Try.f22, [.tmp 4], .pure, [], [], [], false⟩
/-- joust/jousthelp.Own[joust/api.Entity] -/
noncomputable def fi23 : FI := ⟨codeOf Try.f23, [.tmp 4], .fresh, [([0, 1, 0, 1, 1, 1, 1], [3, 5, 6, 7])], [], [], false⟩
/-- joust/joustref05.Put -/
noncomputable def fi24 : FI := ⟨codeOf Try.f24, [.tmp 4], .pure, [([0, 0, 1, 1, 1], [0, 3, 5])], [(4, .one 0 (.one 1 (.one 2 (.one 3 (.one 4 (.one 5 (.one 6 (.one 7 (.one 8 (.one 10 (.one 9 (.one 11 (.one 12 (.one 13 (.done))))))))))))))), (6, .one 0 (.one 1 (.one 2 (.one 7 (.one 8 (.one 9 (.one 4 (.two 3 (.one 5 (.one 6 (.one 10 (.one 11 (.done))))) 5 (.one 3 (.one 6 (.one 10 (.one 11 (.done)))))))))))))], [], false⟩
/-- joust/joustref05.Right -/
noncomputable def fi25 : FI := ⟨codeOf Try.f25, [.tmp 4], .pure, [], [], [], false⟩
/-- joust/joustref05.Find -/
noncomputable def fi26 : FI := ⟨codeOf Try.f26, [.tmp 4], .pure, [([0, 1, 0, 1], [0, 1, 4, 5])], [], [], false⟩
/-- joust/joustref05.Drop -/
noncomputable def fi27 : FI := ⟨codeOf Try.f27, [.tmp 4], .pure, [([0, 1, 0, 1, 1], [0, 1, 5, 6])], [], [([0, 1, 0, 1, 1], [5])], false⟩
/-- joust/joustref05.Things -/
noncomputable def fi28 : FI := ⟨codeOf Try.f28, [.tmp 2], .pure, [([0, 1, 0, 1, 1], [0, 3, 4])], [], [], false⟩
/-- joust/joustref05.Sorted -/
noncomputable def fi29 : FI := ⟨codeOf Try.f29, [.tmp 2], .pure, [([0, 1, 0, 1], [0, 2, 3])], [(4, .one 0 (.one 1 (.one 2 (.one 3 (.one 5 (.one 6 (.one 7 (.one 8 (.one 9 (.one 4 (.one 10 (.one 11 (.done)))))))))))))], [], false⟩
/-- joust/jousthelp.Kept[joust/api.Entity] -/
noncomputable def fi30 : FI := ⟨codeOf Try.f30, [.tmp 6], .inout, [([0, 1, 0, 1, 1, 1], [5, 6, 7, 8])], [(7, .one 0 (.one 1 (.one 2 (.one 3 (.one 4 (.one 5 (.done)))))))], [], false⟩
/-- joust/joustlaw06.awake -/
noncomputable def fi31 : FI := ⟨codeOf Try.f31, [.tmp 0], .pure, [], [(2, .one 0 (.one 1 (.one 2 (.one 3 (.one 4 (.one 5 (.one 6 (.one 7 (.one 8 (.one 9 (.one 10 (.one 11 (.one 12 (.one 14 (.one 15 (.one 13 (.one 16 (.one 17 (.one 18 (.one 19 (.one 20 (.one 21 (.one 22 (.one 23 (.one 24 (.one 25 (.done)))))))))))))))))))))))))))], [], false⟩
/-- joust/cross.Sort -/
noncomputable def fi32 : FI := ⟨codeOf Try.f32, [.tmp 2], .fresh, [], [], [], true⟩
/-- joust/jousthelp.Plain[joust/api.Cross] -/
noncomputable def fi33 : FI := ⟨codeOf Try.f33, [.tmp 4], .pure, [], [], [], false⟩
/-- joust/cross.Less -/
noncomputable def fi34 : FI := ⟨codeOf Try.f34, [.tmp 4], .pure, [], [], [], false⟩
/-- joust/jousthelp.In[joust/api.Cross] -/
noncomputable def fi35 : FI := ⟨codeOf Try.f35, [.tmp 4], .pure, [([0, 1, 0, 1], [0, 3, 4, 5])], [(4, .one 0 (.one 1 (.one 2 (.one 3 (.one 4 (.one 5 (.done)))))))], [], false⟩
/-- joust/cross.To -/
noncomputable def fi36 : FI := ⟨codeOf Try.f36, [.tmp 4], .fresh, [], [], [], true⟩
/-- joust/jousthelp.Own[joust/api.Cross] -/
noncomputable def fi37 : FI := ⟨codeOf Try.f37, [.tmp 4], .fresh, [([0, 1, 0, 1, 1, 1, 1], [3, 5, 6, 7])], [], [], false⟩
/-- joust/cross.Right -/
noncomputable def fi38 : FI := ⟨codeOf Try.f38, [.tmp 4], .pure, [], [(1, .one 1 (.one 4 (.one 0 (.one 2 (.one 5 (.one 3 (.one 6 (.one 7 (.one 8 (.one 9 (.one 10 (.one 11 (.one 12 (.one 13 (.one 14 (.one 15 (.one 16 (.one 17 (.done))))))))))))))))))), (5, .one 1 (.one 0 (.one 2 (.one 3 (.one 4 (.one 6 (.one 7 (.one 9 (.one 10 (.one 13 (.one 5 (.one 8 (.one 11 (.one 14 (.one 12 (.one 15 (.one 16 (.one 17 (.one 18 (.one 19 (.one 20 (.one 21 (.one 22 (.one 23 (.one 24 (.one 25 (.one 26 (.one 27 (.one 28 (.one 30 (.one 29 (.one 31 (.one 32 (.one 33 (.one 34 (.done))))))))))))))))))))))))))))))))))))], [], false⟩
/-- joust/joustref05.Cross -/
noncomputable def fi39 : FI := ⟨codeOf Try.f39, [.tmp 4], .pure, [], [(1, .one 1 (.one 0 (.one 2 (.one 3 (.one 4 (.one 5 (.one 7 (.one 10 (.one 6 (.one 8 (.one 11 (.one 9 (.one 12 (.one 13 (.one 14 (.one 15 (.one 16 (.one 17 (.one 18 (.one 19 (.one 20 (.done)))))))))))))))))))))), (5, .one 1 (.one 0 (.one 2 (.one 3 (.one 4 (.one 6 (.one 7 (.one 9 (.one 10 (.one 13 (.one 5 (.one 8 (.one 11 (.one 14 (.one 12 (.one 15 (.one 16 (.one 17 (.one 18 (.one 19 (.one 20 (.one 21 (.one 22 (.one 23 (.one 24 (.one 25 (.one 26 (.one 27 (.one 28 (.one 30 (.one 29 (.one 31 (.one 32 (.one 33 (.one 34 (.done))))))))))))))))))))))))))))))))))))], [], false⟩
/-- joust/joustref05.Less -/
noncomputable def fi40 : FI := ⟨codeOf Try.f40, [.tmp 4], .pure, [], [], [], false⟩
/-- joust/joustref05.Sort -/
noncomputable def fi41 : FI := ⟨codeOf Try.f41, [.tmp 2], .pure, [([0, 0, 1, 0, 0, 1, 0, 0, 1, 0, 1, 1], [0, 3, 4, 5]), ([0, 1, 0, 1, 1], [0, 3, 4])], [(6, .one 0 (.one 1 (.one 2 (.one 3 (.one 4 (.one 5 (.one 7 (.one 8 (.one 9 (.one 10 (.one 6 (.one 11 (.one 12 (.one 13 (.done))))))))))))))), (8, .one 0 (.one 1 (.one 2 (.one 4 (.one 5 (.one 6 (.one 10 (.one 11 (.one 12 (.one 7 (.two 3 (.one 8 (.one 9 (.one 13 (.one 14 (.done))))) 8 (.one 3 (.one 9 (.one 13 (.one 14 (.done))))))))))))))))], [([0, 1, 0, 1, 1], [3])], false⟩
/-- joust/joustref05.To -/
noncomputable def fi42 : FI := ⟨codeOf Try.f42, [.tmp 4], .pure, [([0, 1, 0, 1, 1], [0, 1, 5, 6])], [], [([0, 1, 0, 1, 1], [5])], false⟩
/-- joust/jousthelp.Kept[joust/api.Cross] -/
noncomputable def fi43 : FI := ⟨codeOf Try.f43, [.tmp 6], .inout, [([0, 1, 0, 1, 1, 1], [5, 6, 7, 8])], [(7, .one 0 (.one 1 (.one 2 (.one 3 (.one 4 (.one 5 (.done)))))))], [], false⟩
/-- joust/jousthelp.In[int] -/
noncomputable def fi44 : FI := ⟨codeOf Try.f44, [.tmp 4], .pure, [([0, 1, 0, 1], [0, 1, 4, 5])], [], [], false⟩
/-- joust/joustref03.Near -/
noncomputable def fi45 : FI := ⟨codeOf Try.f45, [.tmp 4], .pure, [([0, 1, 0, 1, 1], [1, 2, 5, 6])], [(5, .one 0 (.one 1 (.one 4 (.one 5 (.one 9 (.one 10 (.one 13 (.one 14 (.one 2 (.one 3 (.one 6 (.one 7 (.one 8 (.one 18 (.one 11 (.one 12 (.one 15 (.one 16 (.one 17 (.one 19 (.done)))))))))))))))))))))], [([0, 1, 0, 1, 1], [5])], false⟩
/-- joust/joustref03.Of -/
noncomputable def fi46 : FI := ⟨codeOf Try.f46, [.tmp 6], .pure, [], [(3, .one 0 (.one 1 (.one 6 (.one 7 (.one 2 (.one 3 (.one 4 (.one 8 (.one 9 (.one 10 (.one 5 (.one 11 (.one 12 (.one 13 (.done)))))))))))))))], [], false⟩
/-- slices.Clone[[]joust/api.Entity,joust/api.Entity] -/
noncomputable def fi47 : FI := ⟨codeOf Try.f47, [.tmp 2], .fresh, [], [], [], true⟩
/-- slices.IndexFunc[[]joust/api.Entity,joust/api.Entity] -/
noncomputable def fi48 : FI := ⟨codeOf Try.f48, [.tmp 4], .pure, [([0, 1, 0, 1], [0, 1, 4, 7, 8])], [], [], false⟩
/-- joust/entity.Put$1 -/
noncomputable def fi49 : FI := ⟨codeOf Try.f49, [.tmp 3], .pure, [], [], [], false⟩
/-- slices.Insert[[]joust/api.Entity,joust/api.Entity] -/
noncomputable def fi50 : FI := ⟨codeOf Try.f50, [.tmp 6], .inout, [], [(11, .one 0 (.one 1 (.one 2 (.one 3 (.one 4 (.one 5 (.one 6 (.one 7 (.one 8 (.done)))))))))), (15, .one 0 (.one 1 (.one 2 (.one 3 (.one 4 (.one 5 (.one 6 (.one 7 (.one 8 (.done))))))))))], [], true⟩
/-- joust/entity.Find$1 -/
noncomputable def fi51 : FI := ⟨codeOf Try.f51, [.tmp 3], .pure, [], [], [], false⟩
/-- slices.DeleteFunc[[]joust/api.Entity,joust/api.Entity] -/
noncomputable def fi52 : FI := ⟨codeOf Try.f52, [.tmp 4], .inout, [([0, 1, 0, 1, 1, 1], [0, 1, 5, 6])], [], [], true⟩
/-- joust/entity.Drop$1 -/
noncomputable def fi53 : FI := ⟨codeOf Try.f53, [.tmp 3], .pure, [], [], [], false⟩
/-- slices.Contains[[]int,int] -/
noncomputable def fi54 : FI := ⟨codeOf Try.f54, [.tmp 4], .pure, [], [], [], false⟩
/-- joust/jousthelp.Same[joust/api.Entity] -/
noncomputable def fi55 : FI := ⟨codeOf Try.f55, [.tmp 6], .pure, [([0, 1, 0, 1, 1], [0, 1, 2, 6, 7])], [(6, .one 0 (.one 1 (.one 2 (.one 3 (.one 5 (.one 6 (.one 7 (.one 4 (.one 8 (.one 9 (.one 10 (.done))))))))))))], [], false⟩
/-- joust/jousthelp.Plain[joust/api.Entity]$1 -/
noncomputable def fi56 : FI := ⟨codeOf Try.f56, [.tmp 4], .pure, [], [], [], false⟩
/-- joust/joustref03.Right -/
noncomputable def fi57 : FI := ⟨codeOf Try.f57, [.tmp 2], .pure, [], [], [], false⟩
/-- joust/grid.right -/
noncomputable def fi58 : FI := ⟨codeOf Try.f58, [.tmp 2], .pure, [], [], [], false⟩
/-- (joust/grid.Grid).Inside -/
noncomputable def fi59 : FI := ⟨codeOf Try.f59, [.tmp 6], .pure, [], [], [], false⟩
/-- joust/entity.within -/
noncomputable def fi60 : FI := ⟨codeOf Try.f60, [.tmp 6], .pure, [], [], [], false⟩
/-- joust/entity.pace -/
noncomputable def fi61 : FI := ⟨codeOf Try.f61, [.tmp 2], .pure, [], [], [], false⟩
/-- joust/joustref03.Inside -/
noncomputable def fi62 : FI := ⟨codeOf Try.f62, [.tmp 6], .pure, [], [], [], false⟩
/-- joust/joustref05.within -/
noncomputable def fi63 : FI := ⟨codeOf Try.f63, [.tmp 6], .pure, [], [], [], false⟩
/-- joust/joustref05.step -/
noncomputable def fi64 : FI := ⟨codeOf Try.f64, [.tmp 2], .pure, [], [], [], false⟩
/-- slices.Concat[[]joust/api.Cross,joust/api.Cross] -/
noncomputable def fi65 : FI := ⟨codeOf Try.f65, [.tmp 2], .fresh, [([0, 1, 0, 1, 1], [0, 3, 9, 10, 11]), ([0, 1, 0, 1, 1, 1, 1], [6, 25, 26, 27])], [], [([0, 1, 0, 1, 1, 1, 1], [6])], true⟩
/-- slices.SortStableFunc[[]joust/api.Cross,joust/api.Cross] -/
noncomputable def fi66 : FI := ⟨codeOf Try.f66, [], .inout, [], [], [], false⟩
/-- joust/cross.compare -/
noncomputable def fi67 : FI := ⟨codeOf Try.f67, [.tmp 4], .pure, [], [(1, .one 0 (.one 2 (.one 5 (.one 7 (.one 1 (.one 3 (.one 6 (.one 8 (.one 4 (.one 9 (.one 10 (.one 11 (.one 12 (.done)))))))))))))), (6, .one 0 (.one 2 (.one 5 (.one 7 (.one 1 (.one 3 (.one 6 (.one 8 (.one 4 (.one 9 (.one 10 (.one 11 (.one 12 (.done))))))))))))))], [], false⟩
/-- joust/jousthelp.Same[joust/api.Cross] -/
noncomputable def fi68 : FI := ⟨codeOf Try.f68, [.tmp 6], .pure, [([0, 1, 0, 1, 1], [0, 1, 2, 6, 7])], [(6, .one 0 (.one 1 (.one 2 (.one 3 (.one 5 (.one 6 (.one 7 (.one 4 (.one 8 (.one 9 (.one 10 (.done))))))))))))], [], false⟩
/-- joust/jousthelp.Plain[joust/api.Cross]$1 -/
noncomputable def fi69 : FI := ⟨codeOf Try.f69, [.tmp 4], .pure, [], [], [], false⟩
/-- slices.DeleteFunc[[]joust/api.Cross,joust/api.Cross] -/
noncomputable def fi70 : FI := ⟨codeOf Try.f70, [.tmp 4], .inout, [([0, 1, 0, 1, 1, 1], [0, 1, 5, 6])], [], [], true⟩
/-- slices.Clone[[]joust/api.Cross,joust/api.Cross] -/
noncomputable def fi71 : FI := ⟨codeOf Try.f71, [.tmp 2], .fresh, [], [], [], true⟩
/-- joust/cross.To$1 -/
noncomputable def fi72 : FI := ⟨codeOf Try.f72, [.tmp 3], .pure, [], [], [], false⟩
/-- (joust/grid.Grid).Near -/
noncomputable def fi73 : FI := ⟨codeOf Try.f73, [.tmp 4], .pure, [([0, 1, 0, 0, 1, 0, 0, 1, 0, 1, 1, 1], [1, 2, 5, 6, 7]), ([0, 1, 0, 1, 1, 1], [1, 2, 5, 6])], [(5, .one 0 (.one 1 (.one 2 (.one 3 (.one 7 (.one 8 (.one 4 (.one 5 (.one 6 (.one 9 (.one 10 (.one 11 (.one 12 (.done)))))))))))))), (8, .one 0 (.one 1 (.one 2 (.one 3 (.one 7 (.one 8 (.one 4 (.one 5 (.one 6 (.one 9 (.one 10 (.one 11 (.one 12 (.done))))))))))))))], [([0, 1, 0, 0, 1, 0, 0, 1, 0, 1, 1, 1], [5]), ([0, 1, 0, 1, 1, 1], [5])], false⟩
/-- (joust/grid.Grid).Of -/
noncomputable def fi74 : FI := ⟨codeOf Try.f74, [.tmp 6], .pure, [], [(4, .one 0 (.one 5 (.one 1 (.one 6 (.one 2 (.one 3 (.one 4 (.one 7 (.one 8 (.one 9 (.one 10 (.one 11 (.done)))))))))))))], [], false⟩
/-- joust/joustref03.Is -/
noncomputable def fi75 : FI := ⟨codeOf Try.f75, [.tmp 4], .pure, [], [], [], false⟩
/-- joust/joustref03.Regions -/
noncomputable def fi76 : FI := ⟨codeOf Try.f76, [.tmp 2], .pure, [], [], [], false⟩
/-- joust/joustref01.Clamp -/
noncomputable def fi77 : FI := ⟨codeOf Try.f77, [.tmp 6], .pure, [], [], [], false⟩
/-- slices.rotateRight[joust/api.Entity] -/
noncomputable def fi79 : FI := ⟨codeOf Try.f79, [], .inout, [], [], [], false⟩
/-- slices.Index[[]int,int] -/
noncomputable def fi80 : FI := ⟨codeOf Try.f80, [.tmp 4], .pure, [([0, 1, 0, 1], [0, 1, 4, 7, 8])], [], [], false⟩
/-- joust/grid.within -/
noncomputable def fi81 : FI := ⟨codeOf Try.f81, [.tmp 6], .pure, [], [], [], false⟩
/-- (joust/grid.Grid).Width -/
noncomputable def fi82 : FI := ⟨codeOf Try.f82, [.tmp 2], .pure, [], [], [], false⟩
/-- (joust/grid.Grid).Height -/
noncomputable def fi83 : FI := ⟨codeOf Try.f83, [.tmp 2], .pure, [], [], [], false⟩
/-- slices.Grow[[]joust/api.Cross,joust/api.Cross] -/
noncomputable def fi84 : FI := ⟨codeOf Try.f84, [.tmp 4], .inout, [], [], [], true⟩
/-- slices.stableCmpFunc[joust/api.Cross] -/
noncomputable def fi85 : FI := ⟨codeOf Try.f85, [], .inout, [([0, 0, 1, 0, 1, 0, 0, 1, 1, 1, 1], [0, 1, 2, 6, 7, 8]), ([0, 0, 1, 1], [0, 1, 2, 6, 7, 8]), ([0, 1, 1, 1, 1], [0, 1, 2, 6])], [], [], false⟩
/-- cmp.Or[int] -/
noncomputable def fi86 : FI := ⟨codeOf Try.f86, [.tmp 2], .pure, [([0, 1, 0, 1, 1], [2, 3, 6, 7, 8])], [], [], false⟩
/-- cmp.Compare[int] -/
noncomputable def fi87 : FI := ⟨codeOf Try.f87, [.tmp 4], .pure, [], [], [], false⟩
/-- slices.IndexFunc[[]joust/api.Cross,joust/api.Cross] -/
noncomputable def fi88 : FI := ⟨codeOf Try.f88, [.tmp 4], .pure, [([0, 1, 0, 1], [0, 1, 4, 7, 8])], [], [], false⟩
/-- (joust/grid.Grid).is -/
noncomputable def fi89 : FI := ⟨codeOf Try.f89, [.tmp 4], .pure, [], [], [], false⟩
/-- (joust/grid.Grid).size -/
noncomputable def fi90 : FI := ⟨codeOf Try.f90, [.tmp 2, .tmp 3], .pure, [], [(3, .one 0 (.one 1 (.one 3 (.one 4 (.one 2 (.one 6 (.one 5 (.one 7 (.done)))))))))], [], false⟩
/-- joust/fixed.Clamp -/
noncomputable def fi91 : FI := ⟨codeOf Try.f91, [.tmp 6], .pure, [], [], [], false⟩
/-- slices.rotateLeft[joust/api.Entity] -/
noncomputable def fi92 : FI := ⟨codeOf Try.f92, [], .inout, [], [], [], false⟩
/-- slices.insertionSortCmpFunc[joust/api.Cross] -/
noncomputable def fi93 : FI := ⟨codeOf Try.f93, [], .inout, [([0, 1], [0, 1, 2, 3, 8]), ([0, 1, 0, 0, 1, 0, 0, 1], [0, 1, 2, 3, 8, 9])], [(4, .one 0 (.one 1 (.one 2 (.one 3 (.one 4 (.one 5 (.one 6 (.one 7 (.one 9 (.one 10 (.one 11 (.one 12 (.one 8 (.one 13 (.one 14 (.one 15 (.one 16 (.done)))))))))))))))))), (6, .one 0 (.one 1 (.one 2 (.one 3 (.one 4 (.one 5 (.one 6 (.one 7 (.one 8 (.one 10 (.one 11 (.one 12 (.one 9 (.one 13 (.one 14 (.one 15 (.one 16 (.one 17 (.done)))))))))))))))))))], [], false⟩
/-- slices.symMergeCmpFunc[joust/api.Cross] -/
noncomputable def fi94 : FI := ⟨codeOf Try.f94, [], .inout, [([0, 0, 1, 1, 0, 1, 0], [0, 1, 4, 10, 11]), ([0, 0, 1, 1, 0, 1, 0, 1], [0, 2, 4, 14, 15]), ([0, 0, 1, 1, 1, 1, 1, 1, 1], [0, 1, 2, 3, 4, 18, 19, 20, 21, 22]), ([0, 1, 0, 1, 1, 1, 0, 1, 0], [0, 10, 13]), ([0, 1, 0, 1, 1, 1, 0, 1, 0, 1], [0, 14, 17])], [(5, .one 0 (.one 1 (.one 2 (.one 3 (.one 5 (.one 6 (.one 7 (.one 4 (.one 8 (.one 9 (.one 10 (.done)))))))))))), (11, .one 0 (.one 1 (.one 2 (.one 3 (.one 4 (.one 5 (.one 6 (.one 7 (.one 8 (.one 10 (.one 11 (.one 12 (.one 9 (.one 13 (.one 14 (.one 15 (.one 16 (.one 17 (.done))))))))))))))))))), (17, .one 0 (.one 1 (.one 2 (.one 3 (.one 5 (.one 6 (.one 7 (.one 4 (.one 8 (.one 9 (.one 10 (.one 11 (.done))))))))))))), (23, .one 0 (.one 1 (.one 2 (.one 3 (.one 4 (.one 5 (.one 6 (.one 7 (.one 8 (.one 10 (.one 11 (.one 12 (.one 9 (.one 13 (.one 14 (.one 15 (.one 16 (.one 17 (.done))))))))))))))))))), (35, .one 0 (.one 1 (.one 2 (.one 3 (.one 4 (.one 5 (.one 7 (.one 8 (.one 9 (.one 6 (.one 10 (.one 11 (.one 12 (.one 13 (.done)))))))))))))))], [], false⟩
/-- cmp.isNaN[int] -/
noncomputable def fi95 : FI := ⟨codeOf Try.f95, [.tmp 2], .pure, [], [], [], false⟩
/-- (joust/grid.Grid).Regions -/
noncomputable def fi96 : FI := ⟨codeOf Try.f96, [.tmp 2], .pure, [], [], [], false⟩
/-- slices.Reverse[[]joust/api.Entity,joust/api.Entity] -/
noncomputable def fi97 : FI := ⟨codeOf Try.f97, [], .inout, [([0, 1], [0, 2, 3])], [(3, .one 0 (.one 1 (.one 2 (.one 3 (.one 4 (.one 5 (.one 6 (.one 8 (.one 9 (.one 10 (.one 7 (.one 11 (.one 12 (.one 13 (.one 14 (.one 15 (.done)))))))))))))))))], [], false⟩
/-- slices.rotateCmpFunc[joust/api.Cross] -/
noncomputable def fi98 : FI := ⟨codeOf Try.f98, [], .inout, [([0, 0, 1, 1], [0, 2, 4, 10, 11])], [], [], false⟩
/-- slices.swapRangeCmpFunc[joust/api.Cross] -/
noncomputable def fi99 : FI := ⟨codeOf Try.f99, [], .inout, [([0, 1], [0, 1, 2, 3, 10])], [(3, .one 0 (.one 1 (.one 2 (.one 3 (.one 4 (.one 5 (.one 6 (.one 7 (.one 8 (.one 9 (.one 10 (.one 11 (.one 12 (.one 14 (.one 15 (.one 16 (.one 17 (.one 18 (.one 13 (.one 19 (.one 20 (.one 21 (.one 22 (.one 23 (.done)))))))))))))))))))))))))], [], false⟩
noncomputable def fns : Tr (Option FI) :=
  (.n (.n (.n (.n (.n (.n (.n .z (some fi63) .z) (some fi31) (.n .z (some fi95) .z)) (some fi15) (.n (.n .z (some fi79) .z) (some fi47) (.n .z none .z))) (some fi7) (.n (.n (.n .z
  (some fi71) .z) (some fi39) (.n .z none .z)) (some fi23) (.n (.n .z (some fi87) .z) (some fi55) .z))) (some fi3) (.n (.n (.n (.n .z (some fi67) .z) (some fi35) (.n .z (some fi99)
  .z)) (some fi19) (.n (.n .z (some fi83) .z) (some fi51) (.n .z none .z))) (some fi11) (.n (.n (.n .z (some fi75) .z) (some fi43) (.n .z none .z)) (some fi27) (.n (.n .z (some fi91)
  .z) (some fi59) .z)))) none (.n (.n (.n (.n (.n .z (some fi65) .z) (some fi33) (.n .z (some fi97) .z)) (some fi17) (.n (.n .z (some fi81) .z) (some fi49) (.n .z none .z))) (some
  fi9) (.n (.n (.n .z (some fi73) .z) (some fi41) (.n .z none .z)) (some fi25) (.n (.n .z (some fi89) .z) (some fi57) .z))) (some fi5) (.n (.n (.n (.n .z (some fi69) .z) (some fi37)
  (.n .z none .z)) (some fi21) (.n (.n .z (some fi85) .z) (some fi53) .z)) (some fi13) (.n (.n (.n .z (some fi77) .z) (some fi45) (.n .z none .z)) (some fi29) (.n (.n .z (some fi93)
  .z) (some fi61) .z))))) none (.n (.n (.n (.n (.n (.n .z (some fi64) .z) (some fi32) (.n .z (some fi96) .z)) (some fi16) (.n (.n .z (some fi80) .z) (some fi48) (.n .z none .z)))
  (some fi8) (.n (.n (.n .z (some fi72) .z) (some fi40) (.n .z none .z)) (some fi24) (.n (.n .z (some fi88) .z) (some fi56) .z))) (some fi4) (.n (.n (.n (.n .z (some fi68) .z) (some
  fi36) (.n .z none .z)) (some fi20) (.n (.n .z (some fi84) .z) (some fi52) .z)) (some fi12) (.n (.n (.n .z (some fi76) .z) (some fi44) (.n .z none .z)) (some fi28) (.n (.n .z (some
  fi92) .z) (some fi60) .z)))) none (.n (.n (.n (.n (.n .z (some fi66) .z) (some fi34) (.n .z (some fi98) .z)) (some fi18) (.n (.n .z (some fi82) .z) (some fi50) (.n .z none .z)))
  (some fi10) (.n (.n (.n .z (some fi74) .z) (some fi42) (.n .z none .z)) (some fi26) (.n (.n .z (some fi90) .z) (some fi58) .z))) (some fi6) (.n (.n (.n (.n .z (some fi70) .z) (some
  fi38) (.n .z none .z)) (some fi22) (.n (.n .z (some fi86) .z) (some fi54) .z)) (some fi14) (.n (.n (.n .z none .z) (some fi46) (.n .z none .z)) (some fi30) (.n (.n .z (some fi94)
  .z) (some fi62) .z))))))
noncomputable def cx : Cx := ⟨tis, fns, [(78, .overlaps 22)]⟩
end Go.Eva.S1

/- Eva, part 2: how a reading is gone through, step by step. -/
namespace Go.Eva
variable {S : Task → (Res → Prop) → Prop} {α : Type} {R : α → Prop}

theorem wp_ret {a : α} (h : R a) : wpQ S (.ret a) R := h
theorem wp_ask {t : Task} {k : Res → Q α} {x : Res} (h : S t (· = x)) (hk : wpQ S (k x) R) : wpQ S (.ask t k) R :=
  ⟨_, h, ⟨x, rfl⟩, fun _ e => e ▸ hk⟩
theorem wp_askR {t : Task} {k : Res → Q α} {R' : Res → Prop} (h : S t R') (h0 : ∃ x, R' x) (hk : ∀ x, R' x → wpQ S (k x) R) : wpQ S (.ask t k) R :=
  ⟨_, h, h0, hk⟩
theorem wp_test {b : Bool} {k : Bool → Q α} (ht : b = true → wpQ S (k true) R) (hf : b = false → wpQ S (k false) R) : wpQ S (.test b k) R := by
  cases b with
  | true => exact ht rfl
  | false => exact hf rfl
theorem wp_dec {p : Prop} [d : Decidable p] {k : Bool → Q α} (ht : p → wpQ S (k true) R) (hf : ¬ p → wpQ S (k false) R) : wpQ S (.test (decide p) k) R := by
  by_cases h : p
  · have : decide p = true := by simpa using h
    rw [this]; exact ht h
  · have : decide p = false := by simpa using h
    rw [this]; exact hf h
theorem wp_not {b : Bool} {k : Bool → Q α} (ht : b = true → wpQ S (k false) R) (hf : b = false → wpQ S (k true) R) : wpQ S (.test (!b) k) R := by
  cases b with
  | true => exact ht rfl
  | false => exact hf rfl
theorem wp_beq {a b : Int} {k : Bool → Q α} (ht : a = b → wpQ S (k true) R) (hf : a ≠ b → wpQ S (k false) R) : wpQ S (.test (a == b) k) R := by
  by_cases h : a = b
  · have : (a == b) = true := by simpa using h
    rw [this]; exact ht h
  · have : (a == b) = false := by simpa using h
    rw [this]; exact hf h
theorem wp_bne {a b : Int} {k : Bool → Q α} (ht : a ≠ b → wpQ S (k true) R) (hf : a = b → wpQ S (k false) R) : wpQ S (.test (a != b) k) R := by
  by_cases h : a = b
  · have : (a != b) = false := by simpa using h
    rw [this]; exact hf h
  · have : (a != b) = true := by simpa using h
    rw [this]; exact ht h
theorem wp_is {b c : Bool} {k : Bool → Q α} (h : b = c) (hk : wpQ S (k c) R) : wpQ S (.test b k) R := h ▸ hk
theorem wp_num {kd : IntKind} {n m : Int} {k : Int → Q α} (h : kd.wrap n = m) (hk : wpQ S (k m) R) : wpQ S (.num kd n k) R := by
  show wpQ S (k (kd.wrap n)) R
  rw [h]; exact hk
theorem wp_get {xs : List T} {i : Nat} {k : T → Q α} {x : T} (h : xs[i]? = some x) (hx : x ≠ .any) (hk : wpQ S (k x) R) : wpQ S (.get xs i k) R := ⟨x, h, hx, hk⟩
theorem wp_norm {x y : T} {k : T → Q α} (h : x = y) (hk : wpQ S (k y) R) : wpQ S (.norm x k) R := h ▸ hk
theorem wp_nat {n m : Nat} {k : Nat → Q α} (h : n = m) (hk : wpQ S (k m) R) : wpQ S (.nat n k) R := h ▸ hk
theorem wp_cap {lo : Nat} {k : Nat → Q α} (h : ∀ c, lo ≤ c → wpQ S (k c) R) : wpQ S (.cap lo k) R := h
theorem wp_want {p : Prop} {q : Q α} (h : p) (hq : wpQ S q R) : wpQ S (.want p q) R := ⟨h, hq⟩

theorem wrap64 {n : Int} (h : -9223372036854775808 ≤ n ∧ n ≤ 9223372036854775807) : IntKind.i64.wrap n = n := by
  have h64 : IntKind.i64.wrap n = if n % 18446744073709551616 ≥ 9223372036854775808 then n % 18446744073709551616 - 18446744073709551616 else n % 18446744073709551616 := by
    simp [IntKind.wrap, IntKind.bits, IntKind.signed]
  rw [h64]
  split <;> omega

/-- What is sure: one result. -/
abbrev Is (cx : Cx) (t : Task) (x : Res) : Prop := Ev cx t (· = x)
/-- A function over trees that answers a tree. -/
abbrev Fn (cx : Cx) (f : Nat) (as : List T) (r : T) : Prop := Is cx (.call f (as.map .t) []) ⟨.ret, [.t r], []⟩
end Go.Eva

/- Eva, part 40: a reading is gone through by its heads. -/
namespace Go.Eva

/-- What a reading asks for next. -/
inductive Hd where
  | fail | ret
  | ask (t : Task) | test (b : Bool) | num (k : IntKind) (n : Int) | get (xs : List T) (i : Nat) | norm (x : T) | nat (n : Nat) | cap (lo : Nat) | want (p : Prop) | both

/-- What it is told. -/
inductive An where
  | b (c : Bool) | i (n : Int) | t (x : T) | n (m : Nat) | r (x : Res) | o

def hd {α : Type} : Q α → Hd
  | .fail => .fail
  | .ret _ => .ret
  | .ask t _ => .ask t
  | .test b _ => .test b
  | .num k n _ => .num k n
  | .get xs i _ => .get xs i
  | .norm x _ => .norm x
  | .nat n _ => .nat n
  | .cap lo _ => .cap lo
  | .want p _ => .want p
  | .both _ _ => .both

def nx {α : Type} : Q α → An → Q α
  | .ask _ k, .r x => k x
  | .test _ k, .b c => k c
  | .num _ _ k, .i n => k n
  | .get _ _ k, .t x => k x
  | .norm _ k, .t x => k x
  | .nat _ k, .n m => k m
  | .cap _ k, .n m => k m
  | .want _ q, .o => q
  | .both p _, .b true => p
  | .both _ q, .b false => q
  | _, _ => .fail

def out {α : Type} : Q α → Option α
  | .ret a => some a
  | _ => none

def Ok (S : Task → (Res → Prop) → Prop) : Hd → An → Prop
  | .ask t, .r x => S t (· = x)
  | .test b, .b c => b = c
  | .num k n, .i m => k.wrap n = m
  | .get xs i, .t x => xs[i]? = some x ∧ x ≠ .any
  | .norm x, .t y => x = y
  | .nat n, .n m => n = m
  | .want p, .o => p
  | _, _ => False

def nxs {α : Type} : Q α → List An → Q α
  | q, [] => q
  | q, a :: as => nxs (nx q a) as

def hds {α : Type} : Q α → List An → List Hd
  | _, [] => []
  | q, a :: as => hd q :: hds (nx q a) as

def Oks (S : Task → (Res → Prop) → Prop) : List Hd → List An → Prop
  | [], [] => True
  | [h], [a] => Ok S h a
  | h :: hs, a :: as => Ok S h a ∧ Oks S hs as
  | _, _ => False

abbrev ti (n : Int) : T := .int .i64 n
abbrev vi (n : Int) : V := .t (.int .i64 n)
abbrev vb (b : Bool) : V := .t (.bool b)
/-- A member of a list. -/
def gt {α : Type} [Inhabited α] (l : List α) (i : Nat) : α := l[i]?.getD default

section
variable {S : Task → (Res → Prop) → Prop}
theorem o_w {p : Prop} (h : p) : Ok S (.want p) .o := h
theorem o_n {n m : Nat} (h : n = m) : Ok S (.nat n) (.n m) := h
theorem o_i {k : IntKind} {n m : Int} (h : k.wrap n = m) : Ok S (.num k n) (.i m) := h
theorem o_t {x y : T} (h : x = y) : Ok S (.norm x) (.t y) := h
theorem o_l {s : Nat} {xs ys : List T} (h : xs = ys) : Ok S (.norm (.sl s xs)) (.t (.sl s ys)) := congrArg (T.sl s) h
theorem o_g {xs : List T} {i : Nat} {x : T} (h : xs[i]? = some x) (hx : x ≠ .any) : Ok S (.get xs i) (.t x) := ⟨h, hx⟩
theorem o_gm {α : Type} {f : α → T} {l : List α} {xs : List T} {i : Nat} {e : α} (h : xs = l.map f) (he : l[i]? = some e) (hx : f e ≠ .any) : Ok S (.get xs i) (.t (f e)) := ⟨by subst h; rw [List.getElem?_map, he]; rfl, hx⟩
theorem get_gt {α : Type} [Inhabited α] {l : List α} {i : Nat} (h : i < l.length) : l[i]? = some (gt l i) := by simp [gt, h]
theorem o_gt {α : Type} [Inhabited α] {f : α → T} {l : List α} {xs : List T} {i : Nat} (h : xs = l.map f) (he : i < l.length) (hx : f (gt l i) ≠ .any) : Ok S (.get xs i) (.t (f (gt l i))) := o_gm h (get_gt he) hx
theorem o_b {b c : Bool} (h : b = c) : Ok S (.test b) (.b c) := h
theorem o_a {t : Task} {x : Res} (h : S t (· = x)) : Ok S (.ask t) (.r x) := h
theorem t_br {b : Bool} (h : b = true) : Ok S (.test b) (.b true) := h
theorem f_br {b : Bool} (h : b = false) : Ok S (.test b) (.b false) := h
theorem t_brp {p : Prop} [Decidable p] (h : p) : Ok S (.test (decide p)) (.b true) := decide_eq_true h
theorem f_brp {p : Prop} [Decidable p] (h : ¬ p) : Ok S (.test (decide p)) (.b false) := decide_eq_false h
theorem t_bre {x y : Int} (h : x = y) : Ok S (.test (x == y)) (.b true) := by simpa [Ok] using h
theorem f_bre {x y : Int} (h : x ≠ y) : Ok S (.test (x == y)) (.b false) := by simpa [Ok] using h
theorem t_brn {x y : Int} (h : x ≠ y) : Ok S (.test (x != y)) (.b true) := by simpa [Ok] using h
theorem f_brn {x y : Int} (h : x = y) : Ok S (.test (x != y)) (.b false) := by simpa [Ok] using h
theorem t_brnot {b : Bool} (h : b = false) : Ok S (.test (!b)) (.b true) := by simpa [Ok] using h
theorem f_brnot {b : Bool} (h : b = true) : Ok S (.test (!b)) (.b false) := by simpa [Ok] using h
end

theorem w64 {n m : Int} (h : -9223372036854775808 ≤ n ∧ n ≤ 9223372036854775807 ∧ n = m) : IntKind.i64.wrap n = m := by
  rw [wrap64 ⟨h.1, h.2.1⟩]; exact h.2.2
theorem wu64 {n m : Int} (h : 0 ≤ n ∧ n ≤ 18446744073709551615 ∧ n = m) : IntKind.u64.wrap n = m := by
  have h64 : IntKind.u64.wrap n = n % 18446744073709551616 := by simp [IntKind.wrap, IntKind.bits, IntKind.signed]
  rw [h64]; omega
theorem wu8 {n m : Int} (h : 0 ≤ n ∧ n ≤ 255 ∧ n = m) : IntKind.u8.wrap n = m := by
  have h64 : IntKind.u8.wrap n = n % 256 := by simp [IntKind.wrap, IntKind.bits, IntKind.signed]
  rw [h64]; omega

section
variable {α : Type} {f : α → T} {a b : List T} {l m : List α} {x : T} {e : α} {n : Nat}
theorem nm_app (h : a = l.map f) (k : b = m.map f) : a ++ b = (l ++ m).map f := by rw [h, k, List.map_append]
theorem nm_nil : ([] : List T) = ([] : List α).map f := rfl
theorem nm_cons (h : x = f e) (k : a = l.map f) : x :: a = (e :: l).map f := by rw [h, k, List.map_cons]
theorem nm_take (h : a = l.map f) : a.take n = (l.take n).map f := by rw [h, List.map_take]
theorem nm_drop (h : a = l.map f) : a.drop n = (l.drop n).map f := by rw [h, List.map_drop]
theorem nm_set (h : a = l.map f) (k : x = f e) : a.set n x = (l.set n e).map f := by rw [h, k, List.map_set]
theorem nm_rep (k : x = f e) : List.replicate n x = (List.replicate n e).map f := by rw [k, List.map_replicate]
theorem nm_eq (h : a = l.map f) (k : l = m) : a = m.map f := by rw [h, k]
end

/-- A step: what is asked, and the answer. -/
inductive Stp where
  | tt | ff
  | b (x c : Bool) | w (p : Prop) | n (n m : Nat) | l (n : Nat) | i (k : IntKind) (n m : Int) | t (x y : T) | s (x : T) | g (xs : List T) (i : Nat) (x : T) | a (t : Task) (r : Res)

def Stp.hd : Stp → Hd
  | .tt => .test true | .ff => .test false
  | .b x1 _ => .test x1 | .w p1 => .want p1 | .n n1 _ => .nat n1 | .l n1 => .nat n1 | .i k1 n1 _ => .num k1 n1 | .t x1 _ => .norm x1 | .s x1 => .norm x1 | .g xs1 i1 _ => .get xs1 i1 | .a t1 _ => .ask t1

def Stp.an : Stp → An
  | .tt => .b true | .ff => .b false
  | .b _ c1 => .b c1 | .w _ => .o | .n _ m1 => .n m1 | .l n1 => .n n1 | .i _ _ m1 => .i m1 | .t _ y1 => .t y1 | .s x1 => .t x1 | .g _ _ x1 => .t x1 | .a _ r1 => .r r1

def hdL : List Stp → List Hd
  | [] => []
  | s :: r => s.hd :: hdL r

def anL : List Stp → List An
  | [] => []
  | s :: r => s.an :: anL r

/-- What is to be shown of steps. -/
def Obs (S : Task → (Res → Prop) → Prop) : List Stp → Prop
  | [] => True
  | .tt :: r => Obs S r
  | .ff :: r => Obs S r
  | .l _ :: r => Obs S r
  | .s _ :: r => Obs S r
  | x :: r => Ok S x.hd x.an ∧ Obs S r

theorem Obs.oks {S : Task → (Res → Prop) → Prop} : ∀ {l : List Stp}, Obs S l → Oks S (hdL l) (anL l)
  | [], _ => trivial
  | s :: r, h => by
    have key : Ok S s.hd s.an ∧ Oks S (hdL r) (anL r) := by
      cases s <;> first | exact ⟨h.1, Obs.oks h.2⟩ | exact ⟨rfl, Obs.oks (l := r) h⟩
    cases r with
    | nil => exact key.1
    | cons s' r => exact key

/-- What is to be shown of a reading, under a name that nothing unfolds. -/
structure Wp (cx : Cx) (q : Q Res) (R : Res → Prop) : Prop where
  h : wpQ (Ev cx) q R

section
variable {cx : Cx} {R : Res → Prop} {q : Q Res}

theorem Wp.ev {t : Task} (h : Wp cx (body cx t) R) : Ev cx t R := Ev.mk h.h

theorem go1 {a : An} (h : Ok (Ev cx) (hd q) a) (k : Wp cx (nx q a) R) : Wp cx q R := by
  constructor
  replace k := k.h
  cases q <;> cases a <;> simp only [hd, Ok, nx] at h k <;> try exact h.elim
  · exact ⟨_, h, ⟨_, rfl⟩, fun _ e => e ▸ k⟩
  · subst h; exact k
  · subst h; exact k
  · exact ⟨_, h.1, h.2, k⟩
  · subst h; exact k
  · subst h; exact k
  · exact ⟨h, k⟩

theorem go {l : List An} {hs : List Hd} (h : hds q l = hs) (o : Oks (Ev cx) hs l) (k : Wp cx (nxs q l) R) : Wp cx q R := by
  induction l generalizing q hs with
  | nil => exact k
  | cons a l ih =>
    subst h
    cases l with
    | nil => exact go1 o k
    | cons b l => exact go1 o.1 (ih rfl o.2 k)

theorem gs {l : List Stp} (h : hds q (anL l) = hdL l) (o : Obs (Ev cx) l) (k : Wp cx (nxs q (anL l)) R) : Wp cx q R := go h o.oks k

theorem br {b : Bool} (h : hd q = .test b) (ht : b = true → Wp cx (nx q (.b true)) R) (hf : b = false → Wp cx (nx q (.b false)) R) : Wp cx q R := by
  cases q <;> simp only [hd, Hd.test.injEq, reduceCtorEq] at h
  subst h
  rename_i b k
  cases b with
  | true => exact ⟨(ht rfl).h⟩
  | false => exact ⟨(hf rfl).h⟩

theorem brp {p : Prop} [d : Decidable p] (h : hd q = .test (decide p)) (ht : p → Wp cx (nx q (.b true)) R) (hf : ¬ p → Wp cx (nx q (.b false)) R) : Wp cx q R :=
  br h (fun h => ht (of_decide_eq_true h)) (fun h => hf (of_decide_eq_false h))

theorem bre {x y : Int} (h : hd q = .test (x == y)) (ht : x = y → Wp cx (nx q (.b true)) R) (hf : x ≠ y → Wp cx (nx q (.b false)) R) : Wp cx q R :=
  br h (fun h => ht (by simpa using h)) (fun h => hf (by simpa using h))

theorem brn {x y : Int} (h : hd q = .test (x != y)) (ht : x ≠ y → Wp cx (nx q (.b true)) R) (hf : x = y → Wp cx (nx q (.b false)) R) : Wp cx q R :=
  br h (fun h => ht (by simpa using h)) (fun h => hf (by simpa using h))

theorem brnot {b : Bool} (h : hd q = .test (!b)) (ht : b = false → Wp cx (nx q (.b true)) R) (hf : b = true → Wp cx (nx q (.b false)) R) : Wp cx q R :=
  br h (fun h => ht (by simpa using h)) (fun h => hf (by simpa using h))

theorem cp {lo : Nat} (h : hd q = .cap lo) (k : ∀ c, lo ≤ c → Wp cx (nx q (.n c)) R) : Wp cx q R := by
  cases q <;> simp only [hd, Hd.cap.injEq, reduceCtorEq] at h
  subst h
  exact ⟨fun c hc => (k c hc).h⟩

theorem bo (h : hd q = .both) (k1 : Wp cx (nx q (.b true)) R) (k2 : Wp cx (nx q (.b false)) R) : Wp cx q R := by
  cases q <;> simp only [hd, reduceCtorEq] at h
  exact ⟨k1.h, k2.h⟩

theorem ar {t : Task} {R' : Res → Prop} (h : hd q = .ask t) (hs : Ev cx t R') (h0 : ∃ x, R' x) (k : ∀ x, R' x → Wp cx (nx q (.r x)) R) : Wp cx q R := by
  cases q <;> simp only [hd, Hd.ask.injEq, reduceCtorEq] at h
  subst h
  exact ⟨R', hs, h0, fun x hx => (k x hx).h⟩

theorem rt {a : Res} (h : out q = some a) (hr : R a) : Wp cx q R := by
  cases q <;> simp only [out, Option.some.injEq, reduceCtorEq] at h
  subst h
  exact ⟨hr⟩
end
end Go.Eva

/- Eva, part 41: the program's plain data, and how it stands as trees. -/
namespace Go.Eva

structure Entity where
  id : Int
  kind : Int
  x : Int
  y : Int
  vx : Int
  vy : Int
  health : Int
  age : Int
  owner : Int
deriving DecidableEq, Inhabited
def Entity.enc (e : Entity) : T := .agg [ti e.id, ti e.kind, ti e.x, ti e.y, ti e.vx, ti e.vy, ti e.health, ti e.age, ti e.owner]

structure Config where
  cols : Int
  rows : Int
  players : Int
  window : Int
  seed : Int
deriving DecidableEq, Inhabited
def Config.enc (c : Config) : T := .agg [ti c.cols, ti c.rows, ti c.players, ti c.window, .int .u64 c.seed]

structure Input where
  dx : Int
  dy : Int
  fire : Bool
deriving DecidableEq, Inhabited
def Input.enc (i : Input) : T := .agg [ti i.dx, ti i.dy, .bool i.fire]

structure Cross where
  kind : Int
  frm : Int
  to : Int
  frame : Int
  ent : Entity
  x : Int
  y : Int
deriving DecidableEq, Inhabited
def Cross.enc (c : Cross) : T := .agg [ti c.kind, ti c.frm, ti c.to, ti c.frame, ti c.ent.id, ti c.ent.kind, ti c.ent.x, ti c.ent.y, ti c.ent.vx, ti c.ent.vy, ti c.ent.health, ti c.ent.age, ti c.ent.owner, ti c.x, ti c.y]

structure Region where
  frame : Int
  ents : List Entity
deriving DecidableEq, Inhabited
def Region.enc (s : Region) : T := .agg [ti s.frame, .sl 9 (s.ents.map Entity.enc)]

theorem Entity.enc_inj {a b : Entity} : a.enc = b.enc ↔ a = b := by
  constructor
  · intro h; cases a; cases b; simp only [enc, T.agg.injEq, List.cons.injEq, T.int.injEq, true_and, and_true] at h; simpa using h
  · intro h; rw [h]
theorem Input.enc_inj {a b : Input} : a.enc = b.enc ↔ a = b := by
  constructor
  · intro h; cases a; cases b; simp only [enc, T.agg.injEq, List.cons.injEq, T.int.injEq, T.bool.injEq, true_and, and_true] at h; simpa using h
  · intro h; rw [h]
theorem Cross.enc_inj {a b : Cross} : a.enc = b.enc ↔ a = b := by
  constructor
  · intro h; obtain ⟨_, _, _, _, ⟨_, _, _, _, _, _, _, _, _⟩, _, _⟩ := a; obtain ⟨_, _, _, _, ⟨_, _, _, _, _, _, _, _, _⟩, _, _⟩ := b
    simp only [enc, T.agg.injEq, List.cons.injEq, T.int.injEq, true_and, and_true] at h
    simp only [Cross.mk.injEq, Entity.mk.injEq]; simp_all
  · intro h; rw [h]
theorem Config.enc_inj {a b : Config} : a.enc = b.enc ↔ a = b := by
  constructor
  · intro h; cases a; cases b; simp only [enc, T.agg.injEq, List.cons.injEq, T.int.injEq, true_and, and_true] at h; simpa using h
  · intro h; rw [h]
theorem teq_iff {x y : T} : teq x y = true ↔ x = y := by unfold teq; simp
end Go.Eva

/- Eva, part 42: what the lowest layers reckon, in plain words. -/
namespace Go.Eva

def within (v lo hi : Int) : Bool := decide (lo ≤ v) && decide (v ≤ hi)
def Config.right (c : Config) : Bool := within c.cols 1 4 && within c.rows 1 4 && within c.players 1 6 && within c.window 1 16
def Config.zero : Config := ⟨0, 0, 0, 0, 0⟩
/-- The grid of an arena. -/
def Config.grid (c : Config) : Config := if c.right = true then c else Config.zero
def Config.err (c : Config) : Int := if c.right = true then 0 else 10
def Config.regions (c : Config) : Int := if c.right = true then c.cols * c.rows else 0
def Config.width (c : Config) : Int := if c.right = true then c.cols * 1024 else 0
def Config.height (c : Config) : Int := if c.right = true then c.rows * 1024 else 0
def Config.inside (c : Config) (x y : Int) : Bool := within x 0 (c.width - 1) && within y 0 (c.height - 1)
def clamp (v lo hi : Int) : Int := if v < lo then lo else if v > hi then hi else v
def Config.of (c : Config) (x y : Int) : Int := if c.right = true then (clamp y 0 (c.height - 1)).tdiv 1024 * c.cols + (clamp x 0 (c.width - 1)).tdiv 1024 else 0
def Config.is (c : Config) (r : Int) : Bool := within r 0 (c.regions - 1)
def Config.cornerX (c : Config) (r : Int) : Int := if c.is r = true then r.tmod c.cols * 1024 else 0
def Config.cornerY (c : Config) (r : Int) : Int := if c.is r = true then r.tdiv c.cols * 1024 else 0

/-- A number of 64 bits. -/
def i64 (n : Int) : Prop := -9223372036854775808 ≤ n ∧ n ≤ 9223372036854775807
def Config.ok (c : Config) : Prop := i64 c.cols ∧ i64 c.rows ∧ i64 c.players ∧ i64 c.window ∧ 0 ≤ c.seed ∧ c.seed ≤ 18446744073709551615

theorem within_iff {v lo hi : Int} : within v lo hi = true ↔ lo ≤ v ∧ v ≤ hi := by simp [within]
theorem Config.right_iff {c : Config} : c.right = true ↔ (1 ≤ c.cols ∧ c.cols ≤ 4) ∧ (1 ≤ c.rows ∧ c.rows ≤ 4) ∧ (1 ≤ c.players ∧ c.players ≤ 6) ∧ 1 ≤ c.window ∧ c.window ≤ 16 := by
  simp [Config.right, within_iff, and_assoc]
theorem Config.zero_right : Config.zero.right = false := rfl
theorem Config.regions_le {c : Config} : 0 ≤ c.regions ∧ c.regions ≤ 16 := by
  unfold Config.regions
  split
  · rename_i h
    obtain ⟨h1, h2, _⟩ := Config.right_iff.1 h
    have h3 : c.cols = 1 ∨ c.cols = 2 ∨ c.cols = 3 ∨ c.cols = 4 := by omega
    rcases h3 with h3 | h3 | h3 | h3 <;> rw [h3] <;> omega
  · omega
theorem Config.width_le {c : Config} : 0 ≤ c.width ∧ c.width ≤ 4096 := by
  unfold Config.width
  split
  · rename_i h
    have := Config.right_iff.1 h
    omega
  · omega
theorem Config.height_le {c : Config} : 0 ≤ c.height ∧ c.height ≤ 4096 := by
  unfold Config.height
  split
  · rename_i h
    have := Config.right_iff.1 h
    omega
  · omega
theorem Config.mul_le {c : Config} (h : c.right = true) : 1 ≤ c.cols * c.rows ∧ c.cols * c.rows ≤ 16 := by
  obtain ⟨h1, h2, _⟩ := Config.right_iff.1 h
  have h3 : c.cols = 1 ∨ c.cols = 2 ∨ c.cols = 3 ∨ c.cols = 4 := by omega
  rcases h3 with h3 | h3 | h3 | h3 <;> rw [h3] <;> omega
theorem clamp_le {v lo hi : Int} (h : lo ≤ hi) : lo ≤ clamp v lo hi ∧ clamp v lo hi ≤ hi := by unfold clamp; split <;> (try split) <;> omega
theorem tdiv_le {v k m : Int} (hk : 0 < k) (h : 0 ≤ v) (h2 : v < k * m) : 0 ≤ v.tdiv k ∧ v.tdiv k < m := by
  rw [Int.tdiv_eq_ediv_of_nonneg h]
  refine ⟨Int.ediv_nonneg h (by omega), ?_⟩
  exact Int.ediv_lt_of_lt_mul hk (by rw [Int.mul_comm]; exact h2)
theorem tmod_le {v k : Int} (hk : 0 < k) (h : 0 ≤ v) : 0 ≤ v.tmod k ∧ v.tmod k < k := by
  rw [Int.tmod_eq_emod_of_nonneg h]
  exact ⟨Int.emod_nonneg _ (by omega), Int.emod_lt_of_pos _ hk⟩
theorem tdiv_self {v k : Int} (hk : 1 ≤ k) (h : 0 ≤ v) : 0 ≤ v.tdiv k ∧ v.tdiv k ≤ v := by
  rw [Int.tdiv_eq_ediv_of_nonneg h]
  exact ⟨Int.ediv_nonneg h (by omega), Int.ediv_le_self _ h⟩
theorem mul4 {a b : Int} (ha : 0 ≤ a ∧ a ≤ 4) (hb : 0 ≤ b ∧ b ≤ 4) : 0 ≤ a * b ∧ a * b ≤ 16 := by
  obtain ⟨h1, h2⟩ := ha
  have h3 : a = 0 ∨ a = 1 ∨ a = 2 ∨ a = 3 ∨ a = 4 := by omega
  rcases h3 with h3 | h3 | h3 | h3 | h3 <;> subst h3 <;> omega
end Go.Eva

/- Functions of the lowest layers (fixed, grid): what each answers. -/
namespace Go.Eva.S1
theorem f_grid_within (v lo hi : Int) : Fn cx 81 [ti v, ti lo, ti hi] (.bool (within v lo hi)) := by
  refine Wp.ev ?_
  refine brp (p := v ≥ lo) (by kernel_rfl) (fun h1 => ?_) (fun h1 => ?_)
  · refine gs (l := [.tt, .tt, .tt]) (by kernel_rfl) trivial ?_
    refine rt (a := Res.mk Ex.ret [vb (decide (v ≤ hi))] []) (by kernel_rfl) ?_
    (simp_all [within]; (try (rw [Bool.eq_iff_iff]; simp only [decide_eq_true_eq, Bool.and_eq_true]; omega)); (try (intros; omega)))
  · refine gs (l := [.ff, .ff, .ff]) (by kernel_rfl) trivial ?_
    refine rt (a := Res.mk Ex.ret [vb false] []) (by kernel_rfl) ?_
    (simp_all [within]; (try (rw [Bool.eq_iff_iff]; simp only [decide_eq_true_eq, Bool.and_eq_true]; omega)); (try (intros; omega)))
theorem f_entity_within (v lo hi : Int) : Fn cx 60 [ti v, ti lo, ti hi] (.bool (within v lo hi)) := by
  refine Wp.ev ?_
  refine brp (p := v ≥ lo) (by kernel_rfl) (fun h1 => ?_) (fun h1 => ?_)
  · refine gs (l := [.tt, .tt, .tt]) (by kernel_rfl) trivial ?_
    refine rt (a := Res.mk Ex.ret [vb (decide (v ≤ hi))] []) (by kernel_rfl) ?_
    (simp_all [within]; (try (rw [Bool.eq_iff_iff]; simp only [decide_eq_true_eq, Bool.and_eq_true]; omega)); (try (intros; omega)))
  · refine gs (l := [.ff, .ff, .ff]) (by kernel_rfl) trivial ?_
    refine rt (a := Res.mk Ex.ret [vb false] []) (by kernel_rfl) ?_
    (simp_all [within]; (try (rw [Bool.eq_iff_iff]; simp only [decide_eq_true_eq, Bool.and_eq_true]; omega)); (try (intros; omega)))
theorem f_joustref05_within (v lo hi : Int) : Fn cx 63 [ti v, ti lo, ti hi] (.bool (within v lo hi)) := by
  refine Wp.ev ?_
  refine brp (p := v ≥ lo) (by kernel_rfl) (fun h1 => ?_) (fun h1 => ?_)
  · refine gs (l := [.tt, .tt, .tt]) (by kernel_rfl) trivial ?_
    refine rt (a := Res.mk Ex.ret [vb (decide (v ≤ hi))] []) (by kernel_rfl) ?_
    (simp_all [within]; (try (rw [Bool.eq_iff_iff]; simp only [decide_eq_true_eq, Bool.and_eq_true]; omega)); (try (intros; omega)))
  · refine gs (l := [.ff, .ff, .ff]) (by kernel_rfl) trivial ?_
    refine rt (a := Res.mk Ex.ret [vb false] []) (by kernel_rfl) ?_
    (simp_all [within]; (try (rw [Bool.eq_iff_iff]; simp only [decide_eq_true_eq, Bool.and_eq_true]; omega)); (try (intros; omega)))
theorem f_grid_right (c : Config) : Fn cx 58 [c.enc] (.bool c.right) := by
  refine Wp.ev ?_
  refine gs (l := [.a (Task.call 81 [vi c.cols, vi 1, vi 4] []) (Res.mk Ex.ret [vb (within c.cols 1 4)] [])]) (by kernel_rfl) ⟨o_a (f_grid_within _ _ _), trivial⟩ ?_
  refine br (b := within c.cols 1 4) (by kernel_rfl) (fun h1 => ?_) (fun h1 => ?_)
  · refine gs (l := [.tt, .tt, .a (Task.call 81 [vi c.rows, vi 1, vi 4] []) (Res.mk Ex.ret [vb (within c.rows 1 4)] []), .tt]) (by kernel_rfl) ⟨o_a (f_grid_within _ _ _), trivial⟩ ?_
    refine br (b := within c.rows 1 4) (by kernel_rfl) (fun h2 => ?_) (fun h2 => ?_)
    · refine gs (l := [.tt, .tt, .a (Task.call 81 [vi c.players, vi 1, vi 6] []) (Res.mk Ex.ret [vb (within c.players 1 6)] []), .tt]) (by kernel_rfl) ⟨o_a (f_grid_within _ _ _), trivial⟩ ?_
      refine br (b := within c.players 1 6) (by kernel_rfl) (fun h3 => ?_) (fun h3 => ?_)
      · refine gs (l := [.tt, .tt, .a (Task.call 81 [vi c.window, vi 1, vi 16] []) (Res.mk Ex.ret [vb (within c.window 1 16)] []), .tt]) (by kernel_rfl) ⟨o_a (f_grid_within _ _ _), trivial⟩ ?_
        refine rt (a := Res.mk Ex.ret [vb (within c.window 1 16)] []) (by kernel_rfl) ?_
        simp_all [Config.right]
      · refine gs (l := [.ff, .ff, .ff]) (by kernel_rfl) trivial ?_
        refine rt (a := Res.mk Ex.ret [vb false] []) (by kernel_rfl) ?_
        simp_all [Config.right]
    · refine gs (l := [.ff, .ff, .ff, .ff, .ff, .ff, .ff]) (by kernel_rfl) trivial ?_
      refine rt (a := Res.mk Ex.ret [vb false] []) (by kernel_rfl) ?_
      simp_all [Config.right]
  · refine gs (l := [.ff, .ff, .ff, .ff, .ff, .ff, .ff, .ff, .ff, .ff, .ff]) (by kernel_rfl) trivial ?_
    refine rt (a := Res.mk Ex.ret [vb false] []) (by kernel_rfl) ?_
    simp_all [Config.right]
theorem f_grid_New (c : Config) : Is cx (.call 21 [.t c.enc] []) ⟨.ret, [.t c.grid.enc, vi c.err], []⟩ := by
  refine Wp.ev ?_
  refine gs (l := [.a (Task.call 58 [V.t (Config.enc c)] []) (Res.mk Ex.ret [vb (Config.right c)] [])]) (by kernel_rfl) ⟨o_a (f_grid_right _), trivial⟩ ?_
  refine brnot (b := Config.right c) (by kernel_rfl) (fun h1 => ?_) (fun h1 => ?_)
  · refine rt (a := Res.mk Ex.ret [V.t (T.agg [ti 0, ti 0, ti 0, ti 0, T.int IntKind.u64 0]), vi 10] []) (by kernel_rfl) ?_
    simp_all [Config.grid, Config.err, Config.zero, Config.enc]
  · refine rt (a := Res.mk Ex.ret [V.t (T.agg [ti c.cols, ti c.rows, ti c.players, ti c.window, T.int IntKind.u64 c.seed]), vi 0] []) (by kernel_rfl) ?_
    simp_all [Config.grid, Config.err, Config.zero, Config.enc]
theorem f_grid_size_t (c : Config) (h : c.right = true) : Is cx (.call 90 [.t c.enc] []) ⟨.ret, [vi c.cols, vi c.rows], []⟩ := by
  refine Wp.ev ?_
  refine gs (l := [.a (Task.call 58 [V.t (Config.enc c)] []) (Res.mk Ex.ret [vb (Config.right c)] []), .b (!Config.right c) false]) (by kernel_rfl) ⟨o_a (f_grid_right _), f_brnot (by assumption), trivial⟩ ?_
  refine rt (a := Res.mk Ex.ret [vi c.cols, vi c.rows] []) (by kernel_rfl) ?_
  rfl
theorem f_grid_size_f (c : Config) (h : c.right = false) : Is cx (.call 90 [.t c.enc] []) ⟨.ret, [vi 0, vi 0], []⟩ := by
  refine Wp.ev ?_
  refine gs (l := [.a (Task.call 58 [V.t (Config.enc c)] []) (Res.mk Ex.ret [vb (Config.right c)] []), .b (!Config.right c) true]) (by kernel_rfl) ⟨o_a (f_grid_right _), t_brnot (by assumption), trivial⟩ ?_
  refine rt (a := Res.mk Ex.ret [vi 0, vi 0] []) (by kernel_rfl) ?_
  rfl
theorem f_fixed_Clamp (v lo hi : Int) : Fn cx 91 [ti v, ti lo, ti hi] (ti (clamp v lo hi)) := by
  refine Wp.ev ?_
  refine brp (p := v < lo) (by kernel_rfl) (fun h1 => ?_) (fun h1 => ?_)
  · refine rt (a := Res.mk Ex.ret [vi lo] []) (by kernel_rfl) ?_
    (simp_all [clamp]; (try (rw [Bool.eq_iff_iff]; simp only [decide_eq_true_eq, Bool.and_eq_true]; omega)); (try (intros; omega)))
  · refine brp (p := v > hi) (by kernel_rfl) (fun h2 => ?_) (fun h2 => ?_)
    · refine rt (a := Res.mk Ex.ret [vi hi] []) (by kernel_rfl) ?_
      (simp_all [clamp]; (try (rw [Bool.eq_iff_iff]; simp only [decide_eq_true_eq, Bool.and_eq_true]; omega)); (try (intros; omega)))
    · refine rt (a := Res.mk Ex.ret [vi v] []) (by kernel_rfl) ?_
      (simp_all [clamp]; (try (rw [Bool.eq_iff_iff]; simp only [decide_eq_true_eq, Bool.and_eq_true]; omega)); (try (intros; omega)))
theorem f_joustref01_Clamp (v lo hi : Int) : Fn cx 77 [ti v, ti lo, ti hi] (ti (clamp v lo hi)) := by
  refine Wp.ev ?_
  refine brp (p := v < lo) (by kernel_rfl) (fun h1 => ?_) (fun h1 => ?_)
  · refine rt (a := Res.mk Ex.ret [vi lo] []) (by kernel_rfl) ?_
    (simp_all [clamp]; (try (rw [Bool.eq_iff_iff]; simp only [decide_eq_true_eq, Bool.and_eq_true]; omega)); (try (intros; omega)))
  · refine brp (p := v > hi) (by kernel_rfl) (fun h2 => ?_) (fun h2 => ?_)
    · refine rt (a := Res.mk Ex.ret [vi hi] []) (by kernel_rfl) ?_
      (simp_all [clamp]; (try (rw [Bool.eq_iff_iff]; simp only [decide_eq_true_eq, Bool.and_eq_true]; omega)); (try (intros; omega)))
    · refine rt (a := Res.mk Ex.ret [vi v] []) (by kernel_rfl) ?_
      (simp_all [clamp]; (try (rw [Bool.eq_iff_iff]; simp only [decide_eq_true_eq, Bool.and_eq_true]; omega)); (try (intros; omega)))
theorem f_joustref03_Right (c : Config) : Fn cx 57 [c.enc] (.bool c.right) := by
  refine Wp.ev ?_
  refine brp (p := c.cols ≥ 1) (by kernel_rfl) (fun h1 => ?_) (fun h1 => ?_)
  · refine gs (l := [.tt, .tt, .tt]) (by kernel_rfl) trivial ?_
    refine brp (p := c.cols ≤ 4) (by kernel_rfl) (fun h2 => ?_) (fun h2 => ?_)
    · refine gs (l := [.tt, .tt, .tt]) (by kernel_rfl) trivial ?_
      refine brp (p := c.rows ≥ 1) (by kernel_rfl) (fun h3 => ?_) (fun h3 => ?_)
      · refine gs (l := [.tt, .tt, .tt]) (by kernel_rfl) trivial ?_
        refine brp (p := c.rows ≤ 4) (by kernel_rfl) (fun h4 => ?_) (fun h4 => ?_)
        · refine gs (l := [.tt, .tt, .tt]) (by kernel_rfl) trivial ?_
          refine brp (p := c.players ≥ 1) (by kernel_rfl) (fun h5 => ?_) (fun h5 => ?_)
          · refine gs (l := [.tt, .tt, .tt]) (by kernel_rfl) trivial ?_
            refine brp (p := c.players ≤ 6) (by kernel_rfl) (fun h6 => ?_) (fun h6 => ?_)
            · refine gs (l := [.tt, .tt, .tt]) (by kernel_rfl) trivial ?_
              refine brp (p := c.window ≥ 1) (by kernel_rfl) (fun h7 => ?_) (fun h7 => ?_)
              · refine gs (l := [.tt, .tt, .tt]) (by kernel_rfl) trivial ?_
                refine rt (a := Res.mk Ex.ret [vb (decide (c.window ≤ 16))] []) (by kernel_rfl) ?_
                (simp_all [Config.right, within]; (try (rw [Bool.eq_iff_iff]; simp only [decide_eq_true_eq, Bool.and_eq_true]; omega)); (try (intros; omega)))
              · refine gs (l := [.ff, .ff, .ff]) (by kernel_rfl) trivial ?_
                refine rt (a := Res.mk Ex.ret [vb false] []) (by kernel_rfl) ?_
                (simp_all [Config.right, within]; (try (rw [Bool.eq_iff_iff]; simp only [decide_eq_true_eq, Bool.and_eq_true]; omega)); (try (intros; omega)))
            · refine gs (l := [.ff, .ff, .ff, .ff, .ff, .ff, .ff]) (by kernel_rfl) trivial ?_
              refine rt (a := Res.mk Ex.ret [vb false] []) (by kernel_rfl) ?_
              (simp_all [Config.right, within]; (try (rw [Bool.eq_iff_iff]; simp only [decide_eq_true_eq, Bool.and_eq_true]; omega)); (try (intros; omega)))
          · refine gs (l := [.ff, .ff, .ff, .ff, .ff, .ff, .ff, .ff, .ff, .ff, .ff]) (by kernel_rfl) trivial ?_
            refine rt (a := Res.mk Ex.ret [vb false] []) (by kernel_rfl) ?_
            (simp_all [Config.right, within]; (try (rw [Bool.eq_iff_iff]; simp only [decide_eq_true_eq, Bool.and_eq_true]; omega)); (try (intros; omega)))
        · refine gs (l := [.ff, .ff, .ff, .ff, .ff, .ff, .ff, .ff, .ff, .ff, .ff, .ff, .ff, .ff, .ff]) (by kernel_rfl) trivial ?_
          refine rt (a := Res.mk Ex.ret [vb false] []) (by kernel_rfl) ?_
          (simp_all [Config.right, within]; (try (rw [Bool.eq_iff_iff]; simp only [decide_eq_true_eq, Bool.and_eq_true]; omega)); (try (intros; omega)))
      · refine gs (l := [.ff, .ff, .ff, .ff, .ff, .ff, .ff, .ff, .ff, .ff, .ff, .ff, .ff, .ff, .ff, .ff]) (by kernel_rfl) trivial ?_
        refine gs (l := [.ff, .ff, .ff]) (by kernel_rfl) trivial ?_
        refine rt (a := Res.mk Ex.ret [vb false] []) (by kernel_rfl) ?_
        (simp_all [Config.right, within]; (try (rw [Bool.eq_iff_iff]; simp only [decide_eq_true_eq, Bool.and_eq_true]; omega)); (try (intros; omega)))
    · refine gs (l := [.ff, .ff, .ff, .ff, .ff, .ff, .ff, .ff, .ff, .ff, .ff, .ff, .ff, .ff, .ff, .ff]) (by kernel_rfl) trivial ?_
      refine gs (l := [.ff, .ff, .ff, .ff, .ff, .ff, .ff]) (by kernel_rfl) trivial ?_
      refine rt (a := Res.mk Ex.ret [vb false] []) (by kernel_rfl) ?_
      (simp_all [Config.right, within]; (try (rw [Bool.eq_iff_iff]; simp only [decide_eq_true_eq, Bool.and_eq_true]; omega)); (try (intros; omega)))
  · refine gs (l := [.ff, .ff, .ff, .ff, .ff, .ff, .ff, .ff, .ff, .ff, .ff, .ff, .ff, .ff, .ff, .ff]) (by kernel_rfl) trivial ?_
    refine gs (l := [.ff, .ff, .ff, .ff, .ff, .ff, .ff, .ff, .ff, .ff, .ff]) (by kernel_rfl) trivial ?_
    refine rt (a := Res.mk Ex.ret [vb false] []) (by kernel_rfl) ?_
    (simp_all [Config.right, within]; (try (rw [Bool.eq_iff_iff]; simp only [decide_eq_true_eq, Bool.and_eq_true]; omega)); (try (intros; omega)))
theorem f_grid_Regions (c : Config) : Fn cx 96 [c.enc] (ti c.regions) := by
  cases h : c.right with
  | true =>
    have h2 := Config.mul_le h
    refine Wp.ev ?_
    refine gs (l := [.a (Task.call 90 [V.t (Config.enc c)] []) (Res.mk Ex.ret [vi c.cols, vi c.rows] []), .i IntKind.i64 (c.cols * c.rows) (c.cols * c.rows)]) (by kernel_rfl) ⟨o_a (f_grid_size_t _ (by assumption)), o_i (w64 (by omega)), trivial⟩ ?_
    refine rt (a := Res.mk Ex.ret [vi (c.cols * c.rows)] []) (by kernel_rfl) ?_
    simp [Config.regions, h]
  | false => refine Wp.ev ?_
             refine gs (l := [.a (Task.call 90 [V.t (Config.enc c)] []) (Res.mk Ex.ret [vi 0, vi 0] []), .i IntKind.i64 0 0]) (by kernel_rfl) ⟨o_a (f_grid_size_f _ (by assumption)), o_i (by kernel_rfl), trivial⟩ ?_
             refine rt (a := Res.mk Ex.ret [vi 0] []) (by kernel_rfl) ?_
             simp [Config.regions, h]
theorem f_joustref03_Regions (c : Config) : Fn cx 76 [c.enc] (ti c.regions) := by
  cases h : c.right with
  | true =>
    have h2 := Config.mul_le h
    refine Wp.ev ?_
    refine gs (l := [.a (Task.call 57 [V.t (Config.enc c)] []) (Res.mk Ex.ret [vb (Config.right c)] []), .b (!Config.right c) false, .i IntKind.i64 (c.cols * c.rows) (c.cols * c.rows)]) (by kernel_rfl) ⟨o_a (f_joustref03_Right _), f_brnot (by assumption), o_i (w64 (by omega)), trivial⟩ ?_
    refine rt (a := Res.mk Ex.ret [vi (c.cols * c.rows)] []) (by kernel_rfl) ?_
    simp [Config.regions, h]
  | false => refine Wp.ev ?_
             refine gs (l := [.a (Task.call 57 [V.t (Config.enc c)] []) (Res.mk Ex.ret [vb (Config.right c)] []), .b (!Config.right c) true]) (by kernel_rfl) ⟨o_a (f_joustref03_Right _), t_brnot (by assumption), trivial⟩ ?_
             refine rt (a := Res.mk Ex.ret [vi 0] []) (by kernel_rfl) ?_
             simp [Config.regions, h]
theorem f_grid_Width (c : Config) : Fn cx 82 [c.enc] (ti c.width) := by
  cases h : c.right with
  | true =>
    have h2 := Config.right_iff.1 h
    refine Wp.ev ?_
    refine gs (l := [.a (Task.call 90 [V.t (Config.enc c)] []) (Res.mk Ex.ret [vi c.cols, vi c.rows] []), .i IntKind.i64 (c.cols * 1024) (c.cols * 1024)]) (by kernel_rfl) ⟨o_a (f_grid_size_t _ (by assumption)), o_i (w64 (by omega)), trivial⟩ ?_
    refine rt (a := Res.mk Ex.ret [vi (c.cols * 1024)] []) (by kernel_rfl) ?_
    simp [Config.width, h]
  | false => refine Wp.ev ?_
             refine gs (l := [.a (Task.call 90 [V.t (Config.enc c)] []) (Res.mk Ex.ret [vi 0, vi 0] []), .i IntKind.i64 0 0]) (by kernel_rfl) ⟨o_a (f_grid_size_f _ (by assumption)), o_i (by kernel_rfl), trivial⟩ ?_
             refine rt (a := Res.mk Ex.ret [vi 0] []) (by kernel_rfl) ?_
             simp [Config.width, h]
theorem f_grid_Height (c : Config) : Fn cx 83 [c.enc] (ti c.height) := by
  cases h : c.right with
  | true =>
    have h2 := Config.right_iff.1 h
    refine Wp.ev ?_
    refine gs (l := [.a (Task.call 90 [V.t (Config.enc c)] []) (Res.mk Ex.ret [vi c.cols, vi c.rows] []), .i IntKind.i64 (c.rows * 1024) (c.rows * 1024)]) (by kernel_rfl) ⟨o_a (f_grid_size_t _ (by assumption)), o_i (w64 (by omega)), trivial⟩ ?_
    refine rt (a := Res.mk Ex.ret [vi (c.rows * 1024)] []) (by kernel_rfl) ?_
    simp [Config.height, h]
  | false => refine Wp.ev ?_
             refine gs (l := [.a (Task.call 90 [V.t (Config.enc c)] []) (Res.mk Ex.ret [vi 0, vi 0] []), .i IntKind.i64 0 0]) (by kernel_rfl) ⟨o_a (f_grid_size_f _ (by assumption)), o_i (by kernel_rfl), trivial⟩ ?_
             refine rt (a := Res.mk Ex.ret [vi 0] []) (by kernel_rfl) ?_
             simp [Config.height, h]
theorem f_grid_Inside (c : Config) (x y : Int) : Fn cx 59 [c.enc, ti x, ti y] (.bool (c.inside x y)) := by
  have h1 := @Config.width_le c
  have h2 := @Config.height_le c
  refine Wp.ev ?_
  refine gs (l := [.a (Task.call 82 [V.t (Config.enc c)] []) (Res.mk Ex.ret [vi (Config.width c)] []), .i IntKind.i64 (Config.width c - 1) (Config.width c - 1), .a (Task.call 81 [vi x, vi 0, vi (Config.width c - 1)] []) (Res.mk Ex.ret [vb (within x 0 (Config.width c - 1))] [])]) (by kernel_rfl) ⟨o_a (f_grid_Width _), o_i (w64 (by omega)), o_a (f_grid_within _ _ _), trivial⟩ ?_
  refine br (b := within x 0 (Config.width c - 1)) (by kernel_rfl) (fun h1 => ?_) (fun h1 => ?_)
  · refine gs (l := [.tt, .tt, .a (Task.call 83 [V.t (Config.enc c)] []) (Res.mk Ex.ret [vi (Config.height c)] []), .tt, .i IntKind.i64 (Config.height c - 1) (Config.height c - 1), .tt, .a (Task.call 81 [vi y, vi 0, vi (Config.height c - 1)] []) (Res.mk Ex.ret [vb (within y 0 (Config.height c - 1))] []), .tt]) (by kernel_rfl) ⟨o_a (f_grid_Height _), o_i (w64 (by omega)), o_a (f_grid_within _ _ _), trivial⟩ ?_
    refine rt (a := Res.mk Ex.ret [vb (within y 0 (Config.height c - 1))] []) (by kernel_rfl) ?_
    simp_all [Config.inside]
  · refine gs (l := [.ff, .ff, .ff, .ff, .ff]) (by kernel_rfl) trivial ?_
    refine rt (a := Res.mk Ex.ret [vb false] []) (by kernel_rfl) ?_
    simp_all [Config.inside]
theorem f_joustref03_Inside (c : Config) (x y : Int) : Fn cx 62 [c.enc, ti x, ti y] (.bool (c.inside x y)) := by
  cases h : c.right with
  | true =>
    have h2 := Config.right_iff.1 h
    refine Wp.ev ?_
    refine gs (l := [.a (Task.call 57 [V.t (Config.enc c)] []) (Res.mk Ex.ret [vb (Config.right c)] []), .b (Config.right c) true, .tt, .tt]) (by kernel_rfl) ⟨o_a (f_joustref03_Right _), t_br (by assumption), trivial⟩ ?_
    refine brp (p := x ≥ 0) (by kernel_rfl) (fun h1 => ?_) (fun h1 => ?_)
    · refine gs (l := [.tt, .tt, .tt, .i IntKind.i64 (c.cols * 1024) (c.cols * 1024), .tt, .tt]) (by kernel_rfl) ⟨o_i (w64 (by omega)), trivial⟩ ?_
      refine brp (p := x < c.cols * 1024) (by kernel_rfl) (fun h2 => ?_) (fun h2 => ?_)
      · refine gs (l := [.tt, .tt]) (by kernel_rfl) trivial ?_
        refine brp (p := y ≥ 0) (by kernel_rfl) (fun h3 => ?_) (fun h3 => ?_)
        · refine gs (l := [.tt, .tt, .tt, .i IntKind.i64 (c.rows * 1024) (c.rows * 1024), .tt, .tt]) (by kernel_rfl) ⟨o_i (w64 (by omega)), trivial⟩ ?_
          refine rt (a := Res.mk Ex.ret [vb (decide (y < c.rows * 1024))] []) (by kernel_rfl) ?_
          (simp_all [Config.inside, Config.width, Config.height, within]; (try (rw [Bool.eq_iff_iff]; simp only [decide_eq_true_eq, Bool.and_eq_true]; omega)); (try (intros; omega)))
        · refine gs (l := [.ff, .ff, .ff, .ff, .ff]) (by kernel_rfl) trivial ?_
          refine rt (a := Res.mk Ex.ret [vb false] []) (by kernel_rfl) ?_
          (simp_all [Config.inside, Config.width, Config.height, within]; (try (rw [Bool.eq_iff_iff]; simp only [decide_eq_true_eq, Bool.and_eq_true]; omega)); (try (intros; omega)))
      · refine gs (l := [.ff, .ff, .ff, .ff, .ff, .ff, .ff, .ff]) (by kernel_rfl) trivial ?_
        refine rt (a := Res.mk Ex.ret [vb false] []) (by kernel_rfl) ?_
        (simp_all [Config.inside, Config.width, Config.height, within]; (try (rw [Bool.eq_iff_iff]; simp only [decide_eq_true_eq, Bool.and_eq_true]; omega)); (try (intros; omega)))
    · refine gs (l := [.ff, .ff, .ff, .ff, .ff, .ff, .ff, .ff, .ff, .ff, .ff, .ff, .ff, .ff]) (by kernel_rfl) trivial ?_
      refine rt (a := Res.mk Ex.ret [vb false] []) (by kernel_rfl) ?_
      (simp_all [Config.inside, Config.width, Config.height, within]; (try (rw [Bool.eq_iff_iff]; simp only [decide_eq_true_eq, Bool.and_eq_true]; omega)); (try (intros; omega)))
  | false => refine Wp.ev ?_
             refine gs (l := [.a (Task.call 57 [V.t (Config.enc c)] []) (Res.mk Ex.ret [vb (Config.right c)] []), .b (Config.right c) false, .ff, .ff, .ff, .ff, .ff, .ff, .ff, .ff, .ff, .ff, .ff, .ff, .ff, .ff]) (by kernel_rfl) ⟨o_a (f_joustref03_Right _), f_br (by assumption), trivial⟩ ?_
             refine gs (l := [.ff, .ff, .ff]) (by kernel_rfl) trivial ?_
             refine rt (a := Res.mk Ex.ret [vb false] []) (by kernel_rfl) ?_
             (simp_all [Config.inside, Config.width, Config.height, within]; (try (rw [Bool.eq_iff_iff]; simp only [decide_eq_true_eq, Bool.and_eq_true]; omega)); (try (intros; omega)))
theorem f_grid_is (c : Config) (r : Int) : Fn cx 89 [c.enc, ti r] (.bool (c.is r)) := by
  have h1 := @Config.regions_le c
  refine Wp.ev ?_
  refine gs (l := [.a (Task.call 96 [V.t (Config.enc c)] []) (Res.mk Ex.ret [vi (Config.regions c)] []), .i IntKind.i64 (Config.regions c - 1) (Config.regions c - 1), .a (Task.call 81 [vi r, vi 0, vi (Config.regions c - 1)] []) (Res.mk Ex.ret [vb (within r 0 (Config.regions c - 1))] [])]) (by kernel_rfl) ⟨o_a (f_grid_Regions _), o_i (w64 (by omega)), o_a (f_grid_within _ _ _), trivial⟩ ?_
  refine rt (a := Res.mk Ex.ret [vb (within r 0 (Config.regions c - 1))] []) (by kernel_rfl) ?_
  simp_all [Config.is]
theorem f_joustref03_Is (c : Config) (r : Int) : Fn cx 75 [c.enc, ti r] (.bool (c.is r)) := by
  have h1 := @Config.regions_le c
  refine Wp.ev ?_
  refine brp (p := r ≥ 0) (by kernel_rfl) (fun h1 => ?_) (fun h1 => ?_)
  · refine gs (l := [.tt, .tt, .a (Task.call 76 [V.t (Config.enc c)] []) (Res.mk Ex.ret [vi (Config.regions c)] []), .tt, .tt]) (by kernel_rfl) ⟨o_a (f_joustref03_Regions _), trivial⟩ ?_
    refine rt (a := Res.mk Ex.ret [vb (decide (r < Config.regions c))] []) (by kernel_rfl) ?_
    (simp_all [Config.is, within]; (try (rw [Bool.eq_iff_iff]; simp only [decide_eq_true_eq, Bool.and_eq_true]; omega)); (try (intros; omega)))
  · refine gs (l := [.ff, .ff, .ff, .ff]) (by kernel_rfl) trivial ?_
    refine rt (a := Res.mk Ex.ret [vb false] []) (by kernel_rfl) ?_
    (simp_all [Config.is, within]; (try (rw [Bool.eq_iff_iff]; simp only [decide_eq_true_eq, Bool.and_eq_true]; omega)); (try (intros; omega)))
theorem f_grid_Of (c : Config) (x y : Int) : Fn cx 74 [c.enc, ti x, ti y] (ti (c.of x y)) := by
  cases h : c.right with
  | true =>
    have h2 := Config.right_iff.1 h
    have h3 := @Config.width_le c
    have h4 := @Config.height_le c
    have hw : c.width = c.cols * 1024 := by simp [Config.width, h]
    have hh : c.height = c.rows * 1024 := by simp [Config.height, h]
    have h5 := @clamp_le x 0 (c.width - 1) (by omega)
    have h6 := @clamp_le y 0 (c.height - 1) (by omega)
    have h7 := tdiv_le (v := clamp x 0 (c.width - 1)) (k := 1024) (m := 4) (by omega) (by omega) (by omega)
    have h8 := tdiv_le (v := clamp y 0 (c.height - 1)) (k := 1024) (m := 4) (by omega) (by omega) (by omega)
    have h9 := mul4 (a := (clamp y 0 (c.height - 1)).tdiv 1024) (b := c.cols) (by omega) (by omega)
    refine Wp.ev ?_
    refine gs (l := [.a (Task.call 90 [V.t (Config.enc c)] []) (Res.mk Ex.ret [vi c.cols, vi c.rows] []), .b (c.cols == 0) false, .a (Task.call 82 [V.t (Config.enc c)] []) (Res.mk Ex.ret [vi (Config.width c)] []), .i IntKind.i64 (Config.width c - 1) (Config.width c - 1), .a (Task.call 91 [vi x, vi 0, vi (Config.width c - 1)] []) (Res.mk Ex.ret [vi (clamp x 0 (Config.width c - 1))] []), .a (Task.call 83 [V.t (Config.enc c)] []) (Res.mk Ex.ret [vi (Config.height c)] []), .i IntKind.i64 (Config.height c - 1) (Config.height c - 1), .a (Task.call 91 [vi y, vi 0, vi (Config.height c - 1)] []) (Res.mk Ex.ret [vi (clamp y 0 (Config.height c - 1))] []), .w ((1024 : Int) ≠ (0 : Int)), .i IntKind.i64 (Int.tdiv (clamp y 0 (Config.height c - 1)) 1024) (Int.tdiv (clamp y 0 (Config.height c - 1)) 1024), .i IntKind.i64 (Int.tdiv (clamp y 0 (Config.height c - 1)) 1024 * c.cols) (Int.tdiv (clamp y 0 (Config.height c - 1)) 1024 * c.cols), .w ((1024 : Int) ≠ (0 : Int)), .i IntKind.i64 (Int.tdiv (clamp x 0 (Config.width c - 1)) 1024) (Int.tdiv (clamp x 0 (Config.width c - 1)) 1024), .i IntKind.i64 (Int.tdiv (clamp y 0 (Config.height c - 1)) 1024 * c.cols + Int.tdiv (clamp x 0 (Config.width c - 1)) 1024) (Int.tdiv (clamp y 0 (Config.height c - 1)) 1024 * c.cols + Int.tdiv (clamp x 0 (Config.width c - 1)) 1024)]) (by kernel_rfl) ⟨o_a (f_grid_size_t _ (by assumption)), f_bre (by omega), o_a (f_grid_Width _), o_i (w64 (by omega)), o_a (f_fixed_Clamp _ _ _), o_a (f_grid_Height _), o_i (w64 (by omega)), o_a (f_fixed_Clamp _ _ _), o_w (by intro h; cases h), o_i (w64 (by omega)), o_i (w64 (by omega)), o_w (by intro h; cases h), o_i (w64 (by omega)), o_i (w64 (by omega)), trivial⟩ ?_
    refine rt (a := Res.mk Ex.ret [vi (Int.tdiv (clamp y 0 (Config.height c - 1)) 1024 * c.cols + Int.tdiv (clamp x 0 (Config.width c - 1)) 1024)] []) (by kernel_rfl) ?_
    simp [Config.of, h]
  | false => refine Wp.ev ?_
             refine gs (l := [.a (Task.call 90 [V.t (Config.enc c)] []) (Res.mk Ex.ret [vi 0, vi 0] []), .b (0 == 0) true]) (by kernel_rfl) ⟨o_a (f_grid_size_f _ (by assumption)), o_b (by kernel_rfl), trivial⟩ ?_
             refine rt (a := Res.mk Ex.ret [vi 0] []) (by kernel_rfl) ?_
             simp [Config.of, h]
theorem f_joustref03_Of (c : Config) (x y : Int) : Fn cx 46 [c.enc, ti x, ti y] (ti (c.of x y)) := by
  cases h : c.right with
  | true =>
    have h2 := Config.right_iff.1 h
    have h3 := @Config.width_le c
    have h4 := @Config.height_le c
    have hw : c.width = c.cols * 1024 := by simp [Config.width, h]
    have hh : c.height = c.rows * 1024 := by simp [Config.height, h]
    have h5 := @clamp_le x 0 (c.cols * 1024 - 1) (by omega)
    have h6 := @clamp_le y 0 (c.rows * 1024 - 1) (by omega)
    have h7 := tdiv_le (v := clamp x 0 (c.cols * 1024 - 1)) (k := 1024) (m := 4) (by omega) (by omega) (by omega)
    have h8 := tdiv_le (v := clamp y 0 (c.rows * 1024 - 1)) (k := 1024) (m := 4) (by omega) (by omega) (by omega)
    have h9 := mul4 (a := (clamp y 0 (c.rows * 1024 - 1)).tdiv 1024) (b := c.cols) (by omega) (by omega)
    refine Wp.ev ?_
    refine gs (l := [.a (Task.call 57 [V.t (Config.enc c)] []) (Res.mk Ex.ret [vb (Config.right c)] []), .b (!Config.right c) false, .i IntKind.i64 (c.cols * 1024) (c.cols * 1024), .i IntKind.i64 (c.cols * 1024 - 1) (c.cols * 1024 - 1), .i IntKind.i64 (c.rows * 1024) (c.rows * 1024), .i IntKind.i64 (c.rows * 1024 - 1) (c.rows * 1024 - 1), .a (Task.call 77 [vi x, vi 0, vi (c.cols * 1024 - 1)] []) (Res.mk Ex.ret [vi (clamp x 0 (c.cols * 1024 - 1))] []), .a (Task.call 77 [vi y, vi 0, vi (c.rows * 1024 - 1)] []) (Res.mk Ex.ret [vi (clamp y 0 (c.rows * 1024 - 1))] []), .w ((1024 : Int) ≠ (0 : Int)), .i IntKind.i64 (Int.tdiv (clamp y 0 (c.rows * 1024 - 1)) 1024) (Int.tdiv (clamp y 0 (c.rows * 1024 - 1)) 1024), .i IntKind.i64 (Int.tdiv (clamp y 0 (c.rows * 1024 - 1)) 1024 * c.cols) (Int.tdiv (clamp y 0 (c.rows * 1024 - 1)) 1024 * c.cols), .w ((1024 : Int) ≠ (0 : Int)), .i IntKind.i64 (Int.tdiv (clamp x 0 (c.cols * 1024 - 1)) 1024) (Int.tdiv (clamp x 0 (c.cols * 1024 - 1)) 1024), .i IntKind.i64 (Int.tdiv (clamp y 0 (c.rows * 1024 - 1)) 1024 * c.cols + Int.tdiv (clamp x 0 (c.cols * 1024 - 1)) 1024) (Int.tdiv (clamp y 0 (c.rows * 1024 - 1)) 1024 * c.cols + Int.tdiv (clamp x 0 (c.cols * 1024 - 1)) 1024)]) (by kernel_rfl) ⟨o_a (f_joustref03_Right _), f_brnot (by assumption), o_i (w64 (by omega)), o_i (w64 (by omega)), o_i (w64 (by omega)), o_i (w64 (by omega)), o_a (f_joustref01_Clamp _ _ _), o_a (f_joustref01_Clamp _ _ _), o_w (by intro h; cases h), o_i (w64 (by omega)), o_i (w64 (by omega)), o_w (by intro h; cases h), o_i (w64 (by omega)), o_i (w64 (by omega)), trivial⟩ ?_
    refine rt (a := Res.mk Ex.ret [vi (Int.tdiv (clamp y 0 (c.rows * 1024 - 1)) 1024 * c.cols + Int.tdiv (clamp x 0 (c.cols * 1024 - 1)) 1024)] []) (by kernel_rfl) ?_
    simp [Config.of, h, hw, hh]
  | false => refine Wp.ev ?_
             refine gs (l := [.a (Task.call 57 [V.t (Config.enc c)] []) (Res.mk Ex.ret [vb (Config.right c)] []), .b (!Config.right c) true]) (by kernel_rfl) ⟨o_a (f_joustref03_Right _), t_brnot (by assumption), trivial⟩ ?_
             refine rt (a := Res.mk Ex.ret [vi 0] []) (by kernel_rfl) ?_
             simp [Config.of, h]
end Go.Eva.S1

/- Eva, part 43: entities, in plain words. -/
namespace Go.Eva

/-- The place of the first one of which it holds; -1. -/
def pos {α : Type} (p : α → Bool) (l : List α) : Int := match l.findIdx? p with
  | some j => j
  | none => -1

/-- A list that is not beyond all measure. -/
def small {α : Type} (l : List α) : Prop := l.length ≤ 1000000

theorem drop_gt {α : Type} [Inhabited α] {l : List α} {i : Nat} (h : i < l.length) : l.drop i = gt l i :: l.drop (i + 1) := by
  rw [List.drop_eq_getElem_cons h]; simp [gt, h]
theorem take_gt {α : Type} [Inhabited α] {l : List α} {i : Nat} (h : i < l.length) : l.take (i + 1) = l.take i ++ [gt l i] := by
  rw [List.take_add_one]; simp [gt, h]
theorem gt_mem {α : Type} [Inhabited α] {l : List α} {i : Nat} (h : i < l.length) : gt l i ∈ l := by simp [gt, h]
theorem drop_end {α : Type} {l : List α} {i : Nat} (h : l.length ≤ i) : l.drop i = [] := List.drop_eq_nil_of_le h
theorem insert_any {α : Type} (m r : List α) (x : α) (i n : Nat) (hn : n = m.length) (h : i < n) :
    List.take (n + 1) (List.take i (List.take (i + 1) (m ++ r) ++ List.take (n - i) (List.take (n + 1 - i) (List.drop i (m ++ r))) ++ List.drop (i + (n - i) + 1) (m ++ r)) ++ List.take 1 [x] ++
      List.drop (i + 1) (List.take (i + 1) (m ++ r) ++ List.take (n - i) (List.take (n + 1 - i) (List.drop i (m ++ r))) ++ List.drop (i + (n - i) + 1) (m ++ r))) = List.take i m ++ x :: List.drop i m := by
  subst hn
  have e1 : List.take (i + 1) (m ++ r) = List.take (i+1) m := by rw [List.take_append_of_le_length (by omega)]
  have e2 : List.take (m.length - i) (List.take (m.length + 1 - i) (List.drop i (m ++ r))) = List.drop i m := by
    rw [List.take_take, Nat.min_eq_left (by omega), List.drop_append_of_le_length (by omega), List.take_append_of_le_length (by simp), List.take_of_length_le (by simp)]
  rw [e1, e2]
  generalize List.drop (i + (m.length - i) + 1) (m ++ r) = z
  have hl : (List.take (i+1) m).length = i + 1 := by simp; omega
  have e3 : List.take i (List.take (i + 1) m ++ List.drop i m ++ z) = List.take i m := by
    rw [List.append_assoc, List.take_append_of_le_length (by omega), List.take_take, Nat.min_eq_left (by omega)]
  have e4 : List.drop (i + 1) (List.take (i + 1) m ++ List.drop i m ++ z) = List.drop i m ++ z := by
    rw [List.append_assoc, List.drop_append, List.drop_of_length_le (by omega)]
    simp [hl]
  rw [e3, e4]
  have e5 : List.take i m ++ List.take 1 [x] ++ (List.drop i m ++ z) = (List.take i m ++ x :: List.drop i m) ++ z := by simp
  rw [e5, List.take_append_of_le_length (by simp; omega), List.take_of_length_le (by simp; omega)]

theorem insert_any' {α : Type} (m r : List α) (x : α) (i n : Nat) (hn : n = m.length) (h : i < n) :
    List.take (n + 1) (List.take i (List.take (i + 1) (m ++ r) ++ List.take (n + 1 - (i + 1)) (List.take (n + 1 - i) (List.drop i (m ++ r))) ++ List.drop (i + 1 + (n + 1 - (i + 1))) (m ++ r)) ++ List.take 1 [x] ++
      List.drop (i + 1) (List.take (i + 1) (m ++ r) ++ List.take (n + 1 - (i + 1)) (List.take (n + 1 - i) (List.drop i (m ++ r))) ++ List.drop (i + 1 + (n + 1 - (i + 1))) (m ++ r))) = List.take i m ++ x :: List.drop i m := by
  have e1 : n + 1 - (i + 1) = n - i := by omega
  have e2 : i + 1 + (n - i) = i + (n - i) + 1 := by omega
  rw [e1, e2]
  exact insert_any m r x i n hn h

theorem res_arr {v : List V} {s : Nat} {xs ys : List T} {x : Ex} {o : Ob} (h : xs = ys) : Res.mk x v [o, .arr s xs none false] = Res.mk x v [o, .arr s ys none false] := by rw [h]
/-- What does not hold of a test moves ahead. -/
def dfl {α : Type} (p : α → Bool) (A : List α) (i : Nat) : List α → Nat × List α
  | [] => (i, A)
  | v :: r => match p v with
    | true => dfl p A i r
    | false => dfl p (A.set i v) (i + 1) r

theorem dfl_len {α : Type} {p : α → Bool} : ∀ {r A : List α} {i : Nat}, (dfl p A i r).2.length = A.length ∧ i ≤ (dfl p A i r).1 ∧ (dfl p A i r).1 ≤ i + r.length
  | [], A, i => by simp [dfl]
  | v :: r, A, i => by
    simp only [dfl]
    cases p v with
    | true => have := @dfl_len α p r A i; simp only [List.length_cons]; omega
    | false => have := @dfl_len α p r (A.set i v) (i + 1); simp only [List.length_cons, List.length_set] at *; omega

theorem dfl_take {α : Type} {p : α → Bool} : ∀ {r A : List α} {i : Nat}, i + r.length ≤ A.length → (dfl p A i r).2.take (dfl p A i r).1 = A.take i ++ r.filter fun e => !p e
  | [], A, i, _ => by simp [dfl]
  | v :: r, A, i, h => by
    simp only [List.length_cons] at h
    simp only [dfl]
    cases hp : p v with
    | true =>
      simp only [hp, List.filter_cons, Bool.not_true, Bool.false_eq_true, if_false]
      exact dfl_take (by omega)
    | false =>
      simp only [hp, List.filter_cons, Bool.not_false, if_true]
      rw [dfl_take (by simp; omega), List.take_add_one]
      simp [List.take_set_of_le, List.getElem?_set, show i < A.length by omega]

theorem find_none {α : Type} {p : α → Bool} {l : List α} (h : l.findIdx? p = none) : (l.filter fun e => !p e) = l := by
  rw [List.filter_eq_self]
  intro a ha
  have := List.findIdx?_eq_none_iff.1 h a ha
  simp [this]

theorem find_some {α : Type} [Inhabited α] {p : α → Bool} {l : List α} {k : Nat} (h : l.findIdx? p = some k) : k < l.length ∧ (l.filter fun e => !p e) = l.take k ++ (l.drop (k + 1)).filter fun e => !p e := by
  obtain ⟨hk, h1, h2⟩ := List.findIdx?_eq_some_iff_getElem.1 h
  refine ⟨hk, ?_⟩
  have e : l = l.take k ++ l[k] :: l.drop (k + 1) := by rw [← List.drop_eq_getElem_cons hk, List.take_append_drop]
  conv => lhs; rw [e]
  rw [List.filter_append, List.filter_cons, h1]
  have : (l.take k).filter (fun e => !p e) = l.take k := by
    rw [List.filter_eq_self]
    intro a ha
    obtain ⟨j, hj, rfl⟩ := List.getElem_of_mem ha
    simp only [List.length_take] at hj
    have := h2 j (by omega)
    simp only [List.getElem_take]
    simpa using this
  simp [this]

theorem gt_eq {α : Type} [Inhabited α] {l : List α} {i : Nat} (h : i < l.length) : gt l i = l[i] := by simp [gt, h]
end Go.Eva

/- Generic functions of slices. -/
namespace Go.Eva.S1
theorem f_slices_Clone_Entity (l : List Entity) (hl : small l) : Is cx (.call 47 [.t (.sl 9 (l.map Entity.enc))] []) ⟨.ret, [.all 0 none], [.arr 9 (l.map Entity.enc) none false]⟩ := by
  unfold small at hl
  refine Wp.ev ?_
  refine cp (lo := 0) (by kernel_rfl) (fun c1 hc1 => ?_)
  refine brp (p := c1 = 0 ∧ List.length (List.map Entity.enc l) = 0) (by kernel_rfl) (fun h2 => ?_) (fun h2 => ?_)
  · refine rt (a := Res.mk Ex.ret [V.all 0 none] [Ob.arr 9 [] none false]) (by kernel_rfl) ?_
    (first | rfl | (have : l = [] := List.length_eq_zero_iff.1 (by simp_all; done); subst this; rfl))
  · refine gs (l := [.w ((0 : Nat) < (72 : Nat)), .s (T.sl 0 (List.map Entity.enc l)), .s (T.sl 0 (List.map Entity.enc l)), .w (room (List.length (List.map Entity.enc l)) (72 : Nat))]) (by kernel_rfl) ⟨o_w (by omega), o_w (by (simp [room, appendMax]; omega)), trivial⟩ ?_
    refine rt (a := Res.mk Ex.ret [V.all 0 none] [Ob.arr 9 (List.map Entity.enc l) none false]) (by kernel_rfl) ?_
    (first | rfl | (have : l = [] := List.length_eq_zero_iff.1 (by simp_all; done); subst this; rfl))
theorem f_slices_IndexFunc_loop_Entity (l : List Entity) (g : Nat) (cs : List T) (p : Entity → Bool) (hb : isFnB cx g = true) (hn : small l)
    (hg : ∀ e ∈ l, Fn cx g (e.enc :: cs) (.bool (p e))) : ∀ (d i : Nat), i + d = l.length →
    Is cx (.loop 48 [0, 1, 0, 1] 0 [.t (.sl 9 (l.map Entity.enc)), .t (.clo g cs), vi 0, vi l.length, vi i] [])
      (match (l.drop i).findIdx? p with
        | some j => ⟨.ret, [.t (.sl 9 (l.map Entity.enc)), .t (.clo g cs), vi (i + j : Nat), vi l.length, vi (i + j : Nat)], []⟩
        | none => ⟨.exit 0, [.t (.sl 9 (l.map Entity.enc)), .t (.clo g cs), vi 0, vi l.length, vi l.length], []⟩) := by
  unfold small at hn
  intro d
  induction d with
  | zero =>
    intro i hi
    refine Wp.ev ?_
    refine gs (l := [.b (decide ((↑i : Int) < (↑(List.length l) : Int))) false]) (by kernel_rfl) ⟨f_brp (by omega), trivial⟩ ?_
    refine rt (a := Res.mk (Ex.exit 0) [V.t (T.sl 9 (List.map Entity.enc l)), V.t (T.clo g cs), vi 0, vi (↑(List.length l) : Int), vi (↑i : Int)] []) (by kernel_rfl) ?_
    ((have : i = l.length := by omega); subst this; rw [drop_end (Nat.le_refl _)]; rfl)
  | succ d ih =>
    intro i hi
    have hlt : i < l.length := by omega
    have hy := hg _ (gt_mem hlt)
    have ih1 := ih (i + 1) (by omega)
    clear ih hg
    rw [drop_gt hlt, List.findIdx?_cons]
    cases hp : p (gt l i) with
    | true =>
      rw [hp] at hy
      refine Wp.ev ?_
      refine gs (l := [.b (decide ((↑i : Int) < (↑(List.length l) : Int))) true, .w ((0 : Int) ≤ (↑i : Int)), .n (Int.toNat (↑i : Int)) i, .g (List.map Entity.enc l) i (Entity.enc (gt l i)), .w (isFnB cx g = true), .a (Task.call g (V.t (Entity.enc (gt l i)) :: List.map V.t cs) []) (Res.mk Ex.ret [vb true] []), .tt]) (by kernel_rfl) ⟨t_brp (by omega), o_w (by omega), o_n (by kernel_rfl), o_gt rfl (by assumption) (by intro h; cases h), o_w (by assumption), o_a hy, trivial⟩ ?_
      refine rt (a := Res.mk Ex.ret [V.t (T.sl 9 (List.map Entity.enc l)), V.t (T.clo g cs), vi (↑i : Int), vi (↑(List.length l) : Int), vi (↑i : Int)] []) (by kernel_rfl) ?_
      rfl
    | false =>
      rw [hp] at hy
      simp only [Bool.false_eq_true, if_false]
      cases hq : (l.drop (i+1)).findIdx? p with
      | none =>
        rw [hq] at ih1
        refine Wp.ev ?_
        refine gs (l := [.b (decide ((↑i : Int) < (↑(List.length l) : Int))) true, .w ((0 : Int) ≤ (↑i : Int)), .n (Int.toNat (↑i : Int)) i, .g (List.map Entity.enc l) i (Entity.enc (gt l i)), .w (isFnB cx g = true), .a (Task.call g (V.t (Entity.enc (gt l i)) :: List.map V.t cs) []) (Res.mk Ex.ret [vb false] []), .ff, .i IntKind.i64 ((↑i : Int) + 1) ((↑(i + 1) : Int)), .a (Task.loop 48 [0, 1, 0, 1] 0 [V.t (T.sl 9 (List.map Entity.enc l)), V.t (T.clo g cs), vi 0, vi (↑(List.length l) : Int), vi (↑(i + 1) : Int)] []) (Res.mk (Ex.exit 0) [V.t (T.sl 9 (List.map Entity.enc l)), V.t (T.clo g cs), vi 0, vi (↑(List.length l) : Int), vi (↑(List.length l) : Int)] [])]) (by kernel_rfl) ⟨t_brp (by omega), o_w (by omega), o_n (by kernel_rfl), o_gt rfl (by assumption) (by intro h; cases h), o_w (by assumption), o_a hy, o_i (w64 (by omega)), o_a ih1, trivial⟩ ?_
        refine rt (a := Res.mk (Ex.exit 0) [V.t (T.sl 9 (List.map Entity.enc l)), V.t (T.clo g cs), vi 0, vi (↑(List.length l) : Int), vi (↑(List.length l) : Int)] []) (by kernel_rfl) ?_
        rfl
      | some j =>
        rw [hq] at ih1
        refine Wp.ev ?_
        refine gs (l := [.b (decide ((↑i : Int) < (↑(List.length l) : Int))) true, .w ((0 : Int) ≤ (↑i : Int)), .n (Int.toNat (↑i : Int)) i, .g (List.map Entity.enc l) i (Entity.enc (gt l i)), .w (isFnB cx g = true), .a (Task.call g (V.t (Entity.enc (gt l i)) :: List.map V.t cs) []) (Res.mk Ex.ret [vb false] []), .ff, .i IntKind.i64 ((↑i : Int) + 1) ((↑(i + 1) : Int)), .a (Task.loop 48 [0, 1, 0, 1] 0 [V.t (T.sl 9 (List.map Entity.enc l)), V.t (T.clo g cs), vi 0, vi (↑(List.length l) : Int), vi (↑(i + 1) : Int)] []) (Res.mk Ex.ret [V.t (T.sl 9 (List.map Entity.enc l)), V.t (T.clo g cs), vi (↑(i + 1 + j) : Int), vi (↑(List.length l) : Int), vi (↑(i + 1 + j) : Int)] [])]) (by kernel_rfl) ⟨t_brp (by omega), o_w (by omega), o_n (by kernel_rfl), o_gt rfl (by assumption) (by intro h; cases h), o_w (by assumption), o_a hy, o_i (w64 (by omega)), o_a ih1, trivial⟩ ?_
        refine rt (a := Res.mk Ex.ret [V.t (T.sl 9 (List.map Entity.enc l)), V.t (T.clo g cs), vi (↑(i + 1 + j) : Int), vi (↑(List.length l) : Int), vi (↑(i + 1 + j) : Int)] []) (by kernel_rfl) ?_
        simp [Nat.add_assoc, Nat.add_comm 1 j]
theorem f_slices_IndexFunc_Entity (l : List Entity) (g : Nat) (cs : List T) (p : Entity → Bool) (hb : isFnB cx g = true) (hn : small l)
    (hg : ∀ e ∈ l, Fn cx g (e.enc :: cs) (.bool (p e))) : Fn cx 48 [.sl 9 (l.map Entity.enc), .clo g cs] (ti (pos p l)) := by
  have h := f_slices_IndexFunc_loop_Entity l g cs p hb hn hg l.length 0 (by omega)
  clear hg
  rw [List.drop_zero] at h
  unfold pos
  cases hq : l.findIdx? p with
  | none =>
    rw [hq] at h
    refine Wp.ev ?_
    refine gs (l := [.n (List.length (List.map Entity.enc l)) (List.length l), .a (Task.loop 48 [0, 1, 0, 1] 0 [V.t (T.sl 9 (List.map Entity.enc l)), V.t (T.clo g cs), vi 0, vi (↑(List.length l) : Int), vi 0] []) (Res.mk (Ex.exit 0) [V.t (T.sl 9 (List.map Entity.enc l)), V.t (T.clo g cs), vi 0, vi (↑(List.length l) : Int), vi (↑(List.length l) : Int)] [])]) (by kernel_rfl) ⟨o_n (by simp), o_a h, trivial⟩ ?_
    refine rt (a := Res.mk Ex.ret [vi (-1)] []) (by kernel_rfl) ?_
    rfl
  | some j =>
    rw [hq] at h
    refine Wp.ev ?_
    refine gs (l := [.n (List.length (List.map Entity.enc l)) (List.length l), .a (Task.loop 48 [0, 1, 0, 1] 0 [V.t (T.sl 9 (List.map Entity.enc l)), V.t (T.clo g cs), vi 0, vi (↑(List.length l) : Int), vi 0] []) (Res.mk Ex.ret [V.t (T.sl 9 (List.map Entity.enc l)), V.t (T.clo g cs), vi (↑(0 + j) : Int), vi (↑(List.length l) : Int), vi (↑(0 + j) : Int)] [])]) (by kernel_rfl) ⟨o_n (by simp), o_a h, trivial⟩ ?_
    refine rt (a := Res.mk Ex.ret [vi (↑(0 + j) : Int)] []) (by kernel_rfl) ?_
    simp
theorem f_slices_Insert_Entity (l : List Entity) (e : Entity) (i : Nat) (hl : small l) (hi : i ≤ l.length) : Is cx (.call 50 [.all 0 none, vi i, .fit 9 ([e].map Entity.enc)] [.arr 9 (l.map Entity.enc) none false]) ⟨.ret, [.all 1 none], [.dead, .arr 9 ((l.take i ++ e :: l.drop i).map Entity.enc) none false]⟩ := by
  unfold small at hl
  refine Wp.ev ?_
  refine gs (l := [.w ((0 : Int) ≤ (↑i : Int)), .n (Int.toNat (↑i : Int)) i, .w (i ≤ List.length (List.map Entity.enc l) ∧ List.length (List.map Entity.enc l) ≤ List.length (List.map Entity.enc l)), .n (0 + i) i, .n (List.length (List.map Entity.enc l) - i) (List.length l - i), .n (List.length (List.map Entity.enc [e])) 1, .b (1 == 0) false, .n (List.length (List.map Entity.enc l)) (List.length l)]) (by kernel_rfl) ⟨o_w (by omega), o_n (by kernel_rfl), o_w ⟨(by (simp [room, appendMax]; omega)), (by omega)⟩, o_n (by omega), o_n (by simp), o_n (by kernel_rfl), o_b (by kernel_rfl), o_n (by simp), trivial⟩ ?_
  refine bre (x := (↑i : Int)) (y := (↑(List.length l) : Int)) (by kernel_rfl) (fun h1 => ?_) (fun h1 => ?_)
  · refine gs (l := [.w ((0 : Nat) < (72 : Nat)), .t (T.sl 0 [Entity.enc e]) (T.sl 0 (List.map Entity.enc [e])), .t (T.sl 0 (List.map Entity.enc l ++ List.map Entity.enc [e])) (T.sl 0 (List.map Entity.enc (l ++ [e]))), .w (room (List.length (List.map Entity.enc (l ++ [e]))) (72 : Nat))]) (by kernel_rfl) ⟨o_w (by omega), o_l (nm_cons rfl nm_nil), o_l (nm_app rfl rfl), o_w (by (simp [room, appendMax]; omega)), trivial⟩ ?_
    refine rt (a := Res.mk Ex.ret [V.all 1 none] [Ob.dead, Ob.arr 9 (List.map Entity.enc (l ++ [e])) none false]) (by kernel_rfl) ?_
    (refine res_arr ?_; first | (simp only [List.map_cons, List.map_nil]; rw [insert_any' _ _ _ _ _ (by simp) (by omega)]; simp; done) | (have hq : i = l.length := by omega; subst hq; simp; done) | (apply List.ext_getElem?; grind))
  · refine gs (l := [.i IntKind.i64 ((↑(List.length l) : Int) + 1) ((↑(List.length l + 1) : Int))]) (by kernel_rfl) ⟨o_i (w64 (by (simp [room, appendMax]; omega))), trivial⟩ ?_
    refine cp (lo := List.length (List.map Entity.enc l)) (by kernel_rfl) (fun c2 hc2 => ?_)
    refine gs (l := [.n (c2 - 0) c2]) (by kernel_rfl) ⟨o_n (by kernel_rfl), trivial⟩ ?_
    refine brp (p := (↑(List.length l + 1) : Int) > (↑c2 : Int)) (by kernel_rfl) (fun h3 => ?_) (fun h3 => ?_)
    · refine gs (l := [.w ((0 : Int) ≤ (↑i : Int)), .n (Int.toNat (↑i : Int)) i, .b (decide (c2 - List.length (List.map Entity.enc l) = 0)) true, .w ((0 : Nat) ≤ i ∧ (0 : Nat) + i ≤ List.length (List.map Entity.enc l)), .l 0, .n (i - 0) i, .i IntKind.i64 ((↑(List.length l) : Int) + 1) ((↑(List.length l + 1) : Int)), .i IntKind.i64 ((↑(List.length l + 1) : Int) - (↑i : Int)) ((↑(List.length l + 1) : Int) - (↑i : Int)), .w ((0 : Int) ≤ (↑(List.length l + (1 : Nat)) : Int) - (↑i : Int) ∧ room (Int.toNat ((↑(List.length l + (1 : Nat)) : Int) - (↑i : Int))) (72 : Nat)), .n (Int.toNat ((↑(List.length l + 1) : Int) - (↑i : Int))) (List.length l + 1 - i), .b (decide (c2 - List.length (List.map Entity.enc l) = 0)) true, .b (decide (0 + i + List.length (List.replicate (List.length l + 1 - i) (T.agg [ti 0, ti 0, ti 0, ti 0, ti 0, ti 0, ti 0, ti 0, ti 0])) ≤ List.length (List.map Entity.enc l))) false, .t (T.sl 0 (List.take i (List.drop 0 (List.map Entity.enc l)) ++ List.replicate (List.length l + 1 - i) (T.agg [ti 0, ti 0, ti 0, ti 0, ti 0, ti 0, ti 0, ti 0, ti 0]))) (T.sl 0 (List.map Entity.enc (List.take i l ++ List.replicate (List.length l + 1 - i) (Entity.mk 0 0 0 0 0 0 0 0 0)))), .w (room (List.length (List.map Entity.enc (List.take i l ++ List.replicate (List.length l + (1 : Nat) - i) (Entity.mk (0 : Int) (0 : Int) (0 : Int) (0 : Int) (0 : Int) (0 : Int) (0 : Int) (0 : Int) (0 : Int))))) (72 : Nat)), .w ((0 : Int) ≤ (↑i : Int)), .n (Int.toNat (↑i : Int)) i]) (by kernel_rfl) ⟨o_w (by omega), o_n (by kernel_rfl), t_brp (by (simp; omega)), o_w ⟨(by omega), (by (simp [room, appendMax]; omega))⟩, o_n (by kernel_rfl), o_i (w64 (by (simp [room, appendMax]; omega))), o_i (w64 (by (simp [room, appendMax]; omega))), o_w ⟨(by (simp [room, appendMax]; omega)), (by (simp [room, appendMax]; omega))⟩, o_n (by omega), t_brp (by (simp; omega)), f_brp (by (simp; omega)), o_l (nm_eq (nm_app (nm_take (nm_drop rfl)) (nm_rep (e := Entity.mk 0 0 0 0 0 0 0 0 0) rfl)) (by kernel_rfl)), o_w (by (simp [room, appendMax]; omega)), o_w (by omega), o_n (by kernel_rfl), trivial⟩ ?_
      refine gs (l := [.w (i ≤ List.length (List.map Entity.enc (List.take i l ++ List.replicate (List.length l + (1 : Nat) - i) (Entity.mk (0 : Int) (0 : Int) (0 : Int) (0 : Int) (0 : Int) (0 : Int) (0 : Int) (0 : Int) (0 : Int)))) ∧ List.length (List.map Entity.enc (List.take i l ++ List.replicate (List.length l + (1 : Nat) - i) (Entity.mk (0 : Int) (0 : Int) (0 : Int) (0 : Int) (0 : Int) (0 : Int) (0 : Int) (0 : Int) (0 : Int)))) ≤ List.length (List.map Entity.enc (List.take i l ++ List.replicate (List.length l + (1 : Nat) - i) (Entity.mk (0 : Int) (0 : Int) (0 : Int) (0 : Int) (0 : Int) (0 : Int) (0 : Int) (0 : Int) (0 : Int))))), .n (0 + i) i, .n (List.length (List.map Entity.enc (List.take i l ++ List.replicate (List.length l + 1 - i) (Entity.mk 0 0 0 0 0 0 0 0 0))) - i) (List.length l + 1 - i), .n (min (List.length (List.map Entity.enc [e])) (List.length l + 1 - i)) 1, .t (T.sl 0 (List.take i (List.map Entity.enc (List.take i l ++ List.replicate (List.length l + 1 - i) (Entity.mk 0 0 0 0 0 0 0 0 0))) ++ List.take 1 (List.map Entity.enc [e]) ++ List.drop (i + 1) (List.map Entity.enc (List.take i l ++ List.replicate (List.length l + 1 - i) (Entity.mk 0 0 0 0 0 0 0 0 0))))) (T.sl 0 (List.map Entity.enc (List.take i (List.take i l ++ List.replicate (List.length l + 1 - i) (Entity.mk 0 0 0 0 0 0 0 0 0)) ++ [e] ++ List.drop (i + 1) (List.take i l ++ List.replicate (List.length l + 1 - i) (Entity.mk 0 0 0 0 0 0 0 0 0))))), .i IntKind.i64 ((↑i : Int) + 1) ((↑(i + 1) : Int)), .w ((0 : Int) ≤ (↑(i + (1 : Nat)) : Int)), .n (Int.toNat (↑(i + 1) : Int)) (i + 1), .w (i + (1 : Nat) ≤ List.length (List.map Entity.enc (List.take i (List.take i l ++ List.replicate (List.length l + (1 : Nat) - i) (Entity.mk (0 : Int) (0 : Int) (0 : Int) (0 : Int) (0 : Int) (0 : Int) (0 : Int) (0 : Int) (0 : Int))) ++ [e] ++ List.drop (i + (1 : Nat)) (List.take i l ++ List.replicate (List.length l + (1 : Nat) - i) (Entity.mk (0 : Int) (0 : Int) (0 : Int) (0 : Int) (0 : Int) (0 : Int) (0 : Int) (0 : Int) (0 : Int))))) ∧ List.length (List.map Entity.enc (List.take i (List.take i l ++ List.replicate (List.length l + (1 : Nat) - i) (Entity.mk (0 : Int) (0 : Int) (0 : Int) (0 : Int) (0 : Int) (0 : Int) (0 : Int) (0 : Int) (0 : Int))) ++ [e] ++ List.drop (i + (1 : Nat)) (List.take i l ++ List.replicate (List.length l + (1 : Nat) - i) (Entity.mk (0 : Int) (0 : Int) (0 : Int) (0 : Int) (0 : Int) (0 : Int) (0 : Int) (0 : Int) (0 : Int))))) ≤ List.length (List.map Entity.enc (List.take i (List.take i l ++ List.replicate (List.length l + (1 : Nat) - i) (Entity.mk (0 : Int) (0 : Int) (0 : Int) (0 : Int) (0 : Int) (0 : Int) (0 : Int) (0 : Int) (0 : Int))) ++ [e] ++ List.drop (i + (1 : Nat)) (List.take i l ++ List.replicate (List.length l + (1 : Nat) - i) (Entity.mk (0 : Int) (0 : Int) (0 : Int) (0 : Int) (0 : Int) (0 : Int) (0 : Int) (0 : Int) (0 : Int)))))), .n (0 + (i + 1)) (i + 1), .n (List.length (List.map Entity.enc (List.take i (List.take i l ++ List.replicate (List.length l + 1 - i) (Entity.mk 0 0 0 0 0 0 0 0 0)) ++ [e] ++ List.drop (i + 1) (List.take i l ++ List.replicate (List.length l + 1 - i) (Entity.mk 0 0 0 0 0 0 0 0 0)))) - (i + 1)) (i + (List.length l + 1 - i) - (i + 1))]) (by kernel_rfl) ⟨o_w ⟨(by (simp [room, appendMax]; omega)), (by omega)⟩, o_n (by omega), o_n (by (simp; omega)), o_n (by (simp; omega)), o_l (nm_eq (nm_app (nm_app (nm_take rfl) (nm_take rfl)) (nm_drop rfl)) (by kernel_rfl)), o_i (w64 (by (simp [room, appendMax]; omega))), o_w (by (simp [room, appendMax]; omega)), o_n (by kernel_rfl), o_w ⟨(by (simp [room, appendMax]; omega)), (by omega)⟩, o_n (by omega), o_n (by (simp; omega)), trivial⟩ ?_
      refine gs (l := [.w ((0 : Int) ≤ (↑i : Int)), .n (Int.toNat (↑i : Int)) i, .b (decide (c2 - List.length (List.map Entity.enc l) = 0)) true, .w (i ≤ List.length (List.map Entity.enc l) ∧ (0 : Nat) + List.length (List.map Entity.enc l) ≤ List.length (List.map Entity.enc l)), .n (0 + i) i, .n (List.length (List.map Entity.enc l) - i) (List.length l - i), .n (min (List.length (List.take (List.length l - i) (List.drop i (List.map Entity.enc l)))) (i + (List.length l + 1 - i) - (i + 1))) (List.length l - i), .t (T.sl 0 (List.take (i + 1) (List.map Entity.enc (List.take i (List.take i l ++ List.replicate (List.length l + 1 - i) (Entity.mk 0 0 0 0 0 0 0 0 0)) ++ [e] ++ List.drop (i + 1) (List.take i l ++ List.replicate (List.length l + 1 - i) (Entity.mk 0 0 0 0 0 0 0 0 0)))) ++ List.take (List.length l - i) (List.take (List.length l - i) (List.drop i (List.map Entity.enc l))) ++ List.drop (i + 1 + (List.length l - i)) (List.map Entity.enc (List.take i (List.take i l ++ List.replicate (List.length l + 1 - i) (Entity.mk 0 0 0 0 0 0 0 0 0)) ++ [e] ++ List.drop (i + 1) (List.take i l ++ List.replicate (List.length l + 1 - i) (Entity.mk 0 0 0 0 0 0 0 0 0)))))) (T.sl 0 (List.map Entity.enc (List.take (i + 1) (List.take i (List.take i l ++ List.replicate (List.length l + 1 - i) (Entity.mk 0 0 0 0 0 0 0 0 0)) ++ [e] ++ List.drop (i + 1) (List.take i l ++ List.replicate (List.length l + 1 - i) (Entity.mk 0 0 0 0 0 0 0 0 0))) ++ List.take (List.length l - i) (List.take (List.length l - i) (List.drop i l)) ++ List.drop (i + 1 + (List.length l - i)) (List.take i (List.take i l ++ List.replicate (List.length l + 1 - i) (Entity.mk 0 0 0 0 0 0 0 0 0)) ++ [e] ++ List.drop (i + 1) (List.take i l ++ List.replicate (List.length l + 1 - i) (Entity.mk 0 0 0 0 0 0 0 0 0))))))]) (by kernel_rfl) ⟨o_w (by omega), o_n (by kernel_rfl), t_brp (by (simp; omega)), o_w ⟨(by (simp [room, appendMax]; omega)), (by omega)⟩, o_n (by omega), o_n (by simp), o_n (by (simp; omega)), o_l (nm_app (nm_app (nm_take rfl) (nm_take (nm_take (nm_drop rfl)))) (nm_drop rfl)), trivial⟩ ?_
      refine rt (a := Res.mk Ex.ret [V.all 1 none] [Ob.dead, Ob.arr 9 (List.map Entity.enc (List.take (i + 1) (List.take i (List.take i l ++ List.replicate (List.length l + 1 - i) (Entity.mk 0 0 0 0 0 0 0 0 0)) ++ [e] ++ List.drop (i + 1) (List.take i l ++ List.replicate (List.length l + 1 - i) (Entity.mk 0 0 0 0 0 0 0 0 0))) ++ List.take (List.length l - i) (List.take (List.length l - i) (List.drop i l)) ++ List.drop (i + 1 + (List.length l - i)) (List.take i (List.take i l ++ List.replicate (List.length l + 1 - i) (Entity.mk 0 0 0 0 0 0 0 0 0)) ++ [e] ++ List.drop (i + 1) (List.take i l ++ List.replicate (List.length l + 1 - i) (Entity.mk 0 0 0 0 0 0 0 0 0))))) none false]) (by kernel_rfl) ?_
      (refine res_arr ?_; first | (simp only [List.map_cons, List.map_nil]; rw [insert_any' _ _ _ _ _ (by simp) (by omega)]; simp; done) | (have hq : i = l.length := by omega; subst hq; simp; done) | (apply List.ext_getElem?; grind))
    · refine gs (l := [.i IntKind.i64 ((↑(List.length l) : Int) + 1) ((↑(List.length l + 1) : Int)), .w ((0 : Int) ≤ (↑(List.length l + (1 : Nat)) : Int)), .n (Int.toNat (↑(List.length l + 1) : Int)) (List.length l + 1), .b (decide (c2 - List.length (List.map Entity.enc l) = 0)) false, .w ((0 : Nat) ≤ List.length l + (1 : Nat) ∧ (0 : Nat) + (List.length l + (1 : Nat)) ≤ List.length (List.map Entity.enc l) + (c2 - List.length (List.map Entity.enc l))), .b (decide (0 + (List.length l + 1) ≤ List.length (List.map Entity.enc l))) false, .l 0, .n (List.length l + 1 - 0) (List.length l + 1), .i IntKind.i64 ((↑i : Int) + 1) ((↑(i + 1) : Int)), .w ((0 : Int) ≤ (↑(i + (1 : Nat)) : Int)), .n (Int.toNat (↑(i + 1) : Int)) (i + 1), .b (decide (0 = 0)) true, .w (i + (1 : Nat) ≤ List.length l + (1 : Nat) ∧ (0 : Nat) + (List.length l + (1 : Nat)) ≤ List.length (List.map Entity.enc l ++ List.replicate (c2 - List.length (List.map Entity.enc l)) T.any)), .n (0 + (i + 1)) (i + 1), .l (List.length l + 1 - (i + 1)), .b (!false) true]) (by kernel_rfl) ⟨o_i (w64 (by (simp [room, appendMax]; omega))), o_w (by (simp [room, appendMax]; omega)), o_n (by kernel_rfl), f_brp (by (simp; omega)), o_w ⟨(by omega), (by (simp [room, appendMax]; omega))⟩, f_brp (by simp), o_n (by kernel_rfl), o_i (w64 (by (simp [room, appendMax]; omega))), o_w (by (simp [room, appendMax]; omega)), o_n (by kernel_rfl), o_b (by kernel_rfl), o_w ⟨(by (simp [room, appendMax]; omega)), (by (simp [room, appendMax]; omega))⟩, o_n (by omega), o_b (by kernel_rfl), trivial⟩ ?_
      refine gs (l := [.i IntKind.i64 ((↑i : Int) + 1) ((↑(i + 1) : Int)), .w ((0 : Int) ≤ (↑(i + (1 : Nat)) : Int)), .n (Int.toNat (↑(i + 1) : Int)) (i + 1), .b (decide (0 = 0)) true, .w (i + (1 : Nat) ≤ List.length l + (1 : Nat) ∧ (0 : Nat) + (List.length l + (1 : Nat)) ≤ List.length (List.map Entity.enc l ++ List.replicate (c2 - List.length (List.map Entity.enc l)) T.any)), .n (0 + (i + 1)) (i + 1), .l (List.length l + 1 - (i + 1)), .w ((0 : Int) ≤ (↑i : Int)), .n (Int.toNat (↑i : Int)) i, .b (decide (0 = 0)) true, .w (i ≤ List.length l + (1 : Nat) ∧ (0 : Nat) + (List.length l + (1 : Nat)) ≤ List.length (List.map Entity.enc l ++ List.replicate (c2 - List.length (List.map Entity.enc l)) T.any)), .n (0 + i) i, .l (List.length l + 1 - i), .n (min (List.length (List.take (List.length l + 1 - i) (List.drop i (List.map Entity.enc l ++ List.replicate (c2 - List.length (List.map Entity.enc l)) T.any)))) (List.length l + 1 - (i + 1))) (List.length l + 1 - (i + 1)), .s (T.sl 0 (List.take (i + 1) (List.map Entity.enc l ++ List.replicate (c2 - List.length (List.map Entity.enc l)) T.any) ++ List.take (List.length l + 1 - (i + 1)) (List.take (List.length l + 1 - i) (List.drop i (List.map Entity.enc l ++ List.replicate (c2 - List.length (List.map Entity.enc l)) T.any))) ++ List.drop (i + 1 + (List.length l + 1 - (i + 1))) (List.map Entity.enc l ++ List.replicate (c2 - List.length (List.map Entity.enc l)) T.any))), .w ((0 : Int) ≤ (↑i : Int))]) (by kernel_rfl) ⟨o_i (w64 (by (simp [room, appendMax]; omega))), o_w (by (simp [room, appendMax]; omega)), o_n (by kernel_rfl), o_b (by kernel_rfl), o_w ⟨(by (simp [room, appendMax]; omega)), (by (simp [room, appendMax]; omega))⟩, o_n (by omega), o_w (by omega), o_n (by kernel_rfl), o_b (by kernel_rfl), o_w ⟨(by omega), (by (simp [room, appendMax]; omega))⟩, o_n (by omega), o_n (by (simp; omega)), o_w (by omega), trivial⟩ ?_
      refine gs (l := [.n (Int.toNat (↑i : Int)) i, .b (decide (0 = 0)) true, .w (i ≤ List.length l + (1 : Nat) ∧ (0 : Nat) + (List.length l + (1 : Nat)) ≤ List.length (List.take (i + (1 : Nat)) (List.map Entity.enc l ++ List.replicate (c2 - List.length (List.map Entity.enc l)) T.any) ++ List.take (List.length l + (1 : Nat) - (i + (1 : Nat))) (List.take (List.length l + (1 : Nat) - i) (List.drop i (List.map Entity.enc l ++ List.replicate (c2 - List.length (List.map Entity.enc l)) T.any))) ++ List.drop (i + (1 : Nat) + (List.length l + (1 : Nat) - (i + (1 : Nat)))) (List.map Entity.enc l ++ List.replicate (c2 - List.length (List.map Entity.enc l)) T.any))), .n (0 + i) i, .l (List.length l + 1 - i), .n (min (List.length (List.map Entity.enc [e])) (List.length l + 1 - i)) 1, .s (T.sl 0 (List.take i (List.take (i + 1) (List.map Entity.enc l ++ List.replicate (c2 - List.length (List.map Entity.enc l)) T.any) ++ List.take (List.length l + 1 - (i + 1)) (List.take (List.length l + 1 - i) (List.drop i (List.map Entity.enc l ++ List.replicate (c2 - List.length (List.map Entity.enc l)) T.any))) ++ List.drop (i + 1 + (List.length l + 1 - (i + 1))) (List.map Entity.enc l ++ List.replicate (c2 - List.length (List.map Entity.enc l)) T.any)) ++ List.take 1 (List.map Entity.enc [e]) ++ List.drop (i + 1) (List.take (i + 1) (List.map Entity.enc l ++ List.replicate (c2 - List.length (List.map Entity.enc l)) T.any) ++ List.take (List.length l + 1 - (i + 1)) (List.take (List.length l + 1 - i) (List.drop i (List.map Entity.enc l ++ List.replicate (c2 - List.length (List.map Entity.enc l)) T.any))) ++ List.drop (i + 1 + (List.length l + 1 - (i + 1))) (List.map Entity.enc l ++ List.replicate (c2 - List.length (List.map Entity.enc l)) T.any)))), .s (T.sl 0 (List.take (List.length l + 1) (List.take i (List.take (i + 1) (List.map Entity.enc l ++ List.replicate (c2 - List.length (List.map Entity.enc l)) T.any) ++ List.take (List.length l + 1 - (i + 1)) (List.take (List.length l + 1 - i) (List.drop i (List.map Entity.enc l ++ List.replicate (c2 - List.length (List.map Entity.enc l)) T.any))) ++ List.drop (i + 1 + (List.length l + 1 - (i + 1))) (List.map Entity.enc l ++ List.replicate (c2 - List.length (List.map Entity.enc l)) T.any)) ++ List.take 1 (List.map Entity.enc [e]) ++ List.drop (i + 1) (List.take (i + 1) (List.map Entity.enc l ++ List.replicate (c2 - List.length (List.map Entity.enc l)) T.any) ++ List.take (List.length l + 1 - (i + 1)) (List.take (List.length l + 1 - i) (List.drop i (List.map Entity.enc l ++ List.replicate (c2 - List.length (List.map Entity.enc l)) T.any))) ++ List.drop (i + 1 + (List.length l + 1 - (i + 1))) (List.map Entity.enc l ++ List.replicate (c2 - List.length (List.map Entity.enc l)) T.any)))))]) (by kernel_rfl) ⟨o_n (by kernel_rfl), o_b (by kernel_rfl), o_w ⟨(by omega), (by (simp [room, appendMax]; omega))⟩, o_n (by omega), o_n (by (simp; omega)), trivial⟩ ?_
      refine rt (a := Res.mk Ex.ret [V.all 1 none] [Ob.dead, Ob.arr 9 (List.take (List.length l + 1) (List.take i (List.take (i + 1) (List.map Entity.enc l ++ List.replicate (c2 - List.length (List.map Entity.enc l)) T.any) ++ List.take (List.length l + 1 - (i + 1)) (List.take (List.length l + 1 - i) (List.drop i (List.map Entity.enc l ++ List.replicate (c2 - List.length (List.map Entity.enc l)) T.any))) ++ List.drop (i + 1 + (List.length l + 1 - (i + 1))) (List.map Entity.enc l ++ List.replicate (c2 - List.length (List.map Entity.enc l)) T.any)) ++ List.take 1 (List.map Entity.enc [e]) ++ List.drop (i + 1) (List.take (i + 1) (List.map Entity.enc l ++ List.replicate (c2 - List.length (List.map Entity.enc l)) T.any) ++ List.take (List.length l + 1 - (i + 1)) (List.take (List.length l + 1 - i) (List.drop i (List.map Entity.enc l ++ List.replicate (c2 - List.length (List.map Entity.enc l)) T.any))) ++ List.drop (i + 1 + (List.length l + 1 - (i + 1))) (List.map Entity.enc l ++ List.replicate (c2 - List.length (List.map Entity.enc l)) T.any)))) none false]) (by kernel_rfl) ?_
      (refine res_arr ?_; first | (simp only [List.map_cons, List.map_nil]; rw [insert_any' _ _ _ _ _ (by simp) (by omega)]; simp; done) | (have hq : i = l.length := by omega; subst hq; simp; done) | (apply List.ext_getElem?; grind))
theorem f_slices_Clone_Cross (l : List Cross) (hl : small l) : Is cx (.call 71 [.t (.sl 15 (l.map Cross.enc))] []) ⟨.ret, [.all 0 none], [.arr 15 (l.map Cross.enc) none false]⟩ := by
  unfold small at hl
  refine Wp.ev ?_
  refine cp (lo := 0) (by kernel_rfl) (fun c1 hc1 => ?_)
  refine brp (p := c1 = 0 ∧ List.length (List.map Cross.enc l) = 0) (by kernel_rfl) (fun h2 => ?_) (fun h2 => ?_)
  · refine rt (a := Res.mk Ex.ret [V.all 0 none] [Ob.arr 15 [] none false]) (by kernel_rfl) ?_
    (first | rfl | (have : l = [] := List.length_eq_zero_iff.1 (by simp_all; done); subst this; rfl))
  · refine gs (l := [.w ((0 : Nat) < (120 : Nat)), .s (T.sl 0 (List.map Cross.enc l)), .s (T.sl 0 (List.map Cross.enc l)), .w (room (List.length (List.map Cross.enc l)) (120 : Nat))]) (by kernel_rfl) ⟨o_w (by omega), o_w (by (simp [room, appendMax]; omega)), trivial⟩ ?_
    refine rt (a := Res.mk Ex.ret [V.all 0 none] [Ob.arr 15 (List.map Cross.enc l) none false]) (by kernel_rfl) ?_
    (first | rfl | (have : l = [] := List.length_eq_zero_iff.1 (by simp_all; done); subst this; rfl))
theorem f_slices_IndexFunc_loop_Cross (l : List Cross) (g : Nat) (cs : List T) (p : Cross → Bool) (hb : isFnB cx g = true) (hn : small l)
    (hg : ∀ e ∈ l, Fn cx g (e.enc :: cs) (.bool (p e))) : ∀ (d i : Nat), i + d = l.length →
    Is cx (.loop 88 [0, 1, 0, 1] 0 [.t (.sl 15 (l.map Cross.enc)), .t (.clo g cs), vi 0, vi l.length, vi i] [])
      (match (l.drop i).findIdx? p with
        | some j => ⟨.ret, [.t (.sl 15 (l.map Cross.enc)), .t (.clo g cs), vi (i + j : Nat), vi l.length, vi (i + j : Nat)], []⟩
        | none => ⟨.exit 0, [.t (.sl 15 (l.map Cross.enc)), .t (.clo g cs), vi 0, vi l.length, vi l.length], []⟩) := by
  unfold small at hn
  intro d
  induction d with
  | zero =>
    intro i hi
    refine Wp.ev ?_
    refine gs (l := [.b (decide ((↑i : Int) < (↑(List.length l) : Int))) false]) (by kernel_rfl) ⟨f_brp (by omega), trivial⟩ ?_
    refine rt (a := Res.mk (Ex.exit 0) [V.t (T.sl 15 (List.map Cross.enc l)), V.t (T.clo g cs), vi 0, vi (↑(List.length l) : Int), vi (↑i : Int)] []) (by kernel_rfl) ?_
    ((have : i = l.length := by omega); subst this; rw [drop_end (Nat.le_refl _)]; rfl)
  | succ d ih =>
    intro i hi
    have hlt : i < l.length := by omega
    have hy := hg _ (gt_mem hlt)
    have ih1 := ih (i + 1) (by omega)
    clear ih hg
    rw [drop_gt hlt, List.findIdx?_cons]
    cases hp : p (gt l i) with
    | true =>
      rw [hp] at hy
      refine Wp.ev ?_
      refine gs (l := [.b (decide ((↑i : Int) < (↑(List.length l) : Int))) true, .w ((0 : Int) ≤ (↑i : Int)), .n (Int.toNat (↑i : Int)) i, .g (List.map Cross.enc l) i (Cross.enc (gt l i)), .w (isFnB cx g = true), .a (Task.call g (V.t (Cross.enc (gt l i)) :: List.map V.t cs) []) (Res.mk Ex.ret [vb true] []), .tt]) (by kernel_rfl) ⟨t_brp (by omega), o_w (by omega), o_n (by kernel_rfl), o_gt rfl (by assumption) (by intro h; cases h), o_w (by assumption), o_a hy, trivial⟩ ?_
      refine rt (a := Res.mk Ex.ret [V.t (T.sl 15 (List.map Cross.enc l)), V.t (T.clo g cs), vi (↑i : Int), vi (↑(List.length l) : Int), vi (↑i : Int)] []) (by kernel_rfl) ?_
      rfl
    | false =>
      rw [hp] at hy
      simp only [Bool.false_eq_true, if_false]
      cases hq : (l.drop (i+1)).findIdx? p with
      | none =>
        rw [hq] at ih1
        refine Wp.ev ?_
        refine gs (l := [.b (decide ((↑i : Int) < (↑(List.length l) : Int))) true, .w ((0 : Int) ≤ (↑i : Int)), .n (Int.toNat (↑i : Int)) i, .g (List.map Cross.enc l) i (Cross.enc (gt l i)), .w (isFnB cx g = true), .a (Task.call g (V.t (Cross.enc (gt l i)) :: List.map V.t cs) []) (Res.mk Ex.ret [vb false] []), .ff, .i IntKind.i64 ((↑i : Int) + 1) ((↑(i + 1) : Int)), .a (Task.loop 88 [0, 1, 0, 1] 0 [V.t (T.sl 15 (List.map Cross.enc l)), V.t (T.clo g cs), vi 0, vi (↑(List.length l) : Int), vi (↑(i + 1) : Int)] []) (Res.mk (Ex.exit 0) [V.t (T.sl 15 (List.map Cross.enc l)), V.t (T.clo g cs), vi 0, vi (↑(List.length l) : Int), vi (↑(List.length l) : Int)] [])]) (by kernel_rfl) ⟨t_brp (by omega), o_w (by omega), o_n (by kernel_rfl), o_gt rfl (by assumption) (by intro h; cases h), o_w (by assumption), o_a hy, o_i (w64 (by omega)), o_a ih1, trivial⟩ ?_
        refine rt (a := Res.mk (Ex.exit 0) [V.t (T.sl 15 (List.map Cross.enc l)), V.t (T.clo g cs), vi 0, vi (↑(List.length l) : Int), vi (↑(List.length l) : Int)] []) (by kernel_rfl) ?_
        rfl
      | some j =>
        rw [hq] at ih1
        refine Wp.ev ?_
        refine gs (l := [.b (decide ((↑i : Int) < (↑(List.length l) : Int))) true, .w ((0 : Int) ≤ (↑i : Int)), .n (Int.toNat (↑i : Int)) i, .g (List.map Cross.enc l) i (Cross.enc (gt l i)), .w (isFnB cx g = true), .a (Task.call g (V.t (Cross.enc (gt l i)) :: List.map V.t cs) []) (Res.mk Ex.ret [vb false] []), .ff, .i IntKind.i64 ((↑i : Int) + 1) ((↑(i + 1) : Int)), .a (Task.loop 88 [0, 1, 0, 1] 0 [V.t (T.sl 15 (List.map Cross.enc l)), V.t (T.clo g cs), vi 0, vi (↑(List.length l) : Int), vi (↑(i + 1) : Int)] []) (Res.mk Ex.ret [V.t (T.sl 15 (List.map Cross.enc l)), V.t (T.clo g cs), vi (↑(i + 1 + j) : Int), vi (↑(List.length l) : Int), vi (↑(i + 1 + j) : Int)] [])]) (by kernel_rfl) ⟨t_brp (by omega), o_w (by omega), o_n (by kernel_rfl), o_gt rfl (by assumption) (by intro h; cases h), o_w (by assumption), o_a hy, o_i (w64 (by omega)), o_a ih1, trivial⟩ ?_
        refine rt (a := Res.mk Ex.ret [V.t (T.sl 15 (List.map Cross.enc l)), V.t (T.clo g cs), vi (↑(i + 1 + j) : Int), vi (↑(List.length l) : Int), vi (↑(i + 1 + j) : Int)] []) (by kernel_rfl) ?_
        simp [Nat.add_assoc, Nat.add_comm 1 j]
theorem f_slices_IndexFunc_Cross (l : List Cross) (g : Nat) (cs : List T) (p : Cross → Bool) (hb : isFnB cx g = true) (hn : small l)
    (hg : ∀ e ∈ l, Fn cx g (e.enc :: cs) (.bool (p e))) : Fn cx 88 [.sl 15 (l.map Cross.enc), .clo g cs] (ti (pos p l)) := by
  have h := f_slices_IndexFunc_loop_Cross l g cs p hb hn hg l.length 0 (by omega)
  clear hg
  rw [List.drop_zero] at h
  unfold pos
  cases hq : l.findIdx? p with
  | none =>
    rw [hq] at h
    refine Wp.ev ?_
    refine gs (l := [.n (List.length (List.map Cross.enc l)) (List.length l), .a (Task.loop 88 [0, 1, 0, 1] 0 [V.t (T.sl 15 (List.map Cross.enc l)), V.t (T.clo g cs), vi 0, vi (↑(List.length l) : Int), vi 0] []) (Res.mk (Ex.exit 0) [V.t (T.sl 15 (List.map Cross.enc l)), V.t (T.clo g cs), vi 0, vi (↑(List.length l) : Int), vi (↑(List.length l) : Int)] [])]) (by kernel_rfl) ⟨o_n (by simp), o_a h, trivial⟩ ?_
    refine rt (a := Res.mk Ex.ret [vi (-1)] []) (by kernel_rfl) ?_
    rfl
  | some j =>
    rw [hq] at h
    refine Wp.ev ?_
    refine gs (l := [.n (List.length (List.map Cross.enc l)) (List.length l), .a (Task.loop 88 [0, 1, 0, 1] 0 [V.t (T.sl 15 (List.map Cross.enc l)), V.t (T.clo g cs), vi 0, vi (↑(List.length l) : Int), vi 0] []) (Res.mk Ex.ret [V.t (T.sl 15 (List.map Cross.enc l)), V.t (T.clo g cs), vi (↑(0 + j) : Int), vi (↑(List.length l) : Int), vi (↑(0 + j) : Int)] [])]) (by kernel_rfl) ⟨o_n (by simp), o_a h, trivial⟩ ?_
    refine rt (a := Res.mk Ex.ret [vi (↑(0 + j) : Int)] []) (by kernel_rfl) ?_
    simp
end Go.Eva.S1

/- Generic functions of slices, more. -/
namespace Go.Eva.S1
theorem f_slices_DeleteFunc_loop_Entity (l : List Entity) (g : Nat) (cs : List T) (p : Entity → Bool) (hb : isFnB cx g = true) (hn : small l)
    (hg : ∀ e ∈ l, Fn cx g (e.enc :: cs) (.bool (p e))) : ∀ (d i j : Nat) (A : List Entity), j + d = l.length → A.length = l.length → A.drop j = l.drop j → i < j →
    Is cx (.loop 52 [0, 1, 0, 1, 1, 1] 1 [.all 0 none, .t (.clo g cs), vi i, vi j] [.arr 9 (A.map Entity.enc) none false])
      ⟨.exit 0, [.all 0 none, .t (.clo g cs), vi (dfl p A i (l.drop j)).1, vi l.length], [.arr 9 ((dfl p A i (l.drop j)).2.map Entity.enc) none false]⟩ := by
  unfold small at hn
  intro d
  induction d with
  | zero =>
    intro i j A hj hA hd hi
    have hl := drop_end (l := l) (i := j) (by omega)
    rw [hl]
    refine Wp.ev ?_
    refine gs (l := [.n (List.length (List.map Entity.enc A)) (List.length A), .b (decide ((↑j : Int) < (↑(List.length A) : Int))) false]) (by kernel_rfl) ⟨o_n (by simp), f_brp (by omega), trivial⟩ ?_
    refine rt (a := Res.mk (Ex.exit 0) [V.all 0 none, V.t (T.clo g cs), vi (↑i : Int), vi (↑j : Int)] [Ob.arr 9 (List.map Entity.enc A) none false]) (by kernel_rfl) ?_
    ((have hq : j = l.length := by omega); subst hq; simp [dfl])
  | succ d ih =>
    intro i j A hj hA hd hi
    have hlt : j < l.length := by omega
    have hy := hg _ (gt_mem hlt)
    have hx : A[j]? = some (gt l j) := by rw [← List.head?_drop, hd, drop_gt hlt]; rfl
    have ih1 := ih i (j + 1) A (by omega) hA (by rw [← List.drop_drop, hd, List.drop_drop]) (by omega)
    have ih2 := ih (i + 1) (j + 1) (A.set i (gt l j)) (by omega) (by simpa using hA) (by rw [List.drop_set_of_lt (by omega), ← List.drop_drop, hd, List.drop_drop]) (by omega)
    clear ih hg
    rw [drop_gt hlt]
    cases hp : p (gt l j) with
    | true =>
      rw [hp] at hy
      refine Wp.ev ?_
      refine gs (l := [.n (List.length (List.map Entity.enc A)) (List.length A), .b (decide ((↑j : Int) < (↑(List.length A) : Int))) true, .w ((0 : Int) ≤ (↑j : Int)), .n (Int.toNat (↑j : Int)) j, .w (j < List.length (List.map Entity.enc A)), .g (List.map Entity.enc A) j (Entity.enc (gt l j)), .w (isFnB cx g = true), .a (Task.call g (V.t (Entity.enc (gt l j)) :: List.map V.t cs) []) (Res.mk Ex.ret [vb true] []), .b (!true) false, .i IntKind.i64 ((↑j : Int) + 1) ((↑(j + 1) : Int)), .a (Task.loop 52 [0, 1, 0, 1, 1, 1] 1 [V.all 0 none, V.t (T.clo g cs), vi (↑i : Int), vi (↑(j + 1) : Int)] [Ob.arr 9 (List.map Entity.enc A) none false]) (Res.mk (Ex.exit 0) [V.all 0 none, V.t (T.clo g cs), vi (↑(dfl p A i (List.drop (j + 1) l)).fst : Int), vi (↑(List.length l) : Int)] [Ob.arr 9 (List.map Entity.enc (dfl p A i (List.drop (j + 1) l)).snd) none false])]) (by kernel_rfl) ⟨o_n (by simp), t_brp (by omega), o_w (by omega), o_n (by kernel_rfl), o_w (by (simp; omega)), o_gm rfl hx (by intro h; cases h), o_w (by assumption), o_a hy, o_b (by kernel_rfl), o_i (w64 (by omega)), o_a ih1, trivial⟩ ?_
      refine rt (a := Res.mk (Ex.exit 0) [V.all 0 none, V.t (T.clo g cs), vi (↑(dfl p A i (List.drop (j + 1) l)).fst : Int), vi (↑(List.length l) : Int)] [Ob.arr 9 (List.map Entity.enc (dfl p A i (List.drop (j + 1) l)).snd) none false]) (by kernel_rfl) ?_
      simp [dfl, hp]
    | false =>
      rw [hp] at hy
      refine Wp.ev ?_
      refine gs (l := [.n (List.length (List.map Entity.enc A)) (List.length A), .b (decide ((↑j : Int) < (↑(List.length A) : Int))) true, .w ((0 : Int) ≤ (↑j : Int)), .n (Int.toNat (↑j : Int)) j, .w (j < List.length (List.map Entity.enc A)), .g (List.map Entity.enc A) j (Entity.enc (gt l j)), .w (isFnB cx g = true), .a (Task.call g (V.t (Entity.enc (gt l j)) :: List.map V.t cs) []) (Res.mk Ex.ret [vb false] []), .b (!false) true, .w ((0 : Int) ≤ (↑i : Int)), .n (Int.toNat (↑i : Int)) i, .w (i < List.length (List.map Entity.enc A)), .w (i < List.length (List.map Entity.enc A)), .t (T.sl 0 (List.set (List.map Entity.enc A) i (Entity.enc (gt l j)))) (T.sl 0 (List.map Entity.enc (List.set A i (gt l j)))), .i IntKind.i64 ((↑i : Int) + 1) ((↑(i + 1) : Int)), .i IntKind.i64 ((↑j : Int) + 1) ((↑(j + 1) : Int))]) (by kernel_rfl) ⟨o_n (by simp), t_brp (by omega), o_w (by omega), o_n (by kernel_rfl), o_w (by (simp; omega)), o_gm rfl hx (by intro h; cases h), o_w (by assumption), o_a hy, o_b (by kernel_rfl), o_w (by omega), o_n (by kernel_rfl), o_w (by (simp; omega)), o_w (by (simp; omega)), o_l (nm_set rfl rfl), o_i (w64 (by omega)), o_i (w64 (by omega)), trivial⟩ ?_
      refine gs (l := [.a (Task.loop 52 [0, 1, 0, 1, 1, 1] 1 [V.all 0 none, V.t (T.clo g cs), vi (↑(i + 1) : Int), vi (↑(j + 1) : Int)] [Ob.arr 9 (List.map Entity.enc (List.set A i (gt l j))) none false]) (Res.mk (Ex.exit 0) [V.all 0 none, V.t (T.clo g cs), vi (↑(dfl p (List.set A i (gt l j)) (i + 1) (List.drop (j + 1) l)).fst : Int), vi (↑(List.length l) : Int)] [Ob.arr 9 (List.map Entity.enc (dfl p (List.set A i (gt l j)) (i + 1) (List.drop (j + 1) l)).snd) none false])]) (by kernel_rfl) ⟨o_a ih2, trivial⟩ ?_
      refine rt (a := Res.mk (Ex.exit 0) [V.all 0 none, V.t (T.clo g cs), vi (↑(dfl p (List.set A i (gt l j)) (i + 1) (List.drop (j + 1) l)).fst : Int), vi (↑(List.length l) : Int)] [Ob.arr 9 (List.map Entity.enc (dfl p (List.set A i (gt l j)) (i + 1) (List.drop (j + 1) l)).snd) none false]) (by kernel_rfl) ?_
      simp [dfl, hp]
theorem f_slices_DeleteFunc_Entity (l : List Entity) (g : Nat) (cs : List T) (p : Entity → Bool) (hb : isFnB cx g = true) (hn : small l)
    (hg : ∀ e ∈ l, Fn cx g (e.enc :: cs) (.bool (p e))) : Is cx (.call 52 [.all 0 none, .t (.clo g cs)] [.arr 9 (l.map Entity.enc) none false])
      ⟨.ret, [.all 1 none], [.dead, .arr 9 ((l.filter fun e => !p e).map Entity.enc) none false]⟩ := by
  have h0 := f_slices_IndexFunc_Entity l g cs p hb hn hg
  have h1 := f_slices_DeleteFunc_loop_Entity l g cs p hb hn hg
  clear hg
  unfold pos at h0
  have hn' : l.length ≤ 1000000 := hn
  cases hq : l.findIdx? p with
  | none =>
    rw [hq] at h0; simp only at h0
    have hf := find_none hq
    refine Wp.ev ?_
    refine gs (l := [.a (Task.call 48 [V.t (T.sl 9 (List.map Entity.enc l)), V.t (T.clo g cs)] []) (Res.mk Ex.ret [vi (-1)] []), .b (flats [ti (-1)]) true, .b (-1 == -1) true]) (by kernel_rfl) ⟨o_a h0, o_b (by kernel_rfl), o_b (by kernel_rfl), trivial⟩ ?_
    refine rt (a := Res.mk Ex.ret [V.all 1 none] [Ob.dead, Ob.arr 9 (List.map Entity.enc l) none false]) (by kernel_rfl) ?_
    (refine res_arr ?_; rw [hf])
  | some k =>
    rw [hq] at h0; simp only at h0
    obtain ⟨hk, hf⟩ := find_some hq
    have h1' := h1 (l.length - (k + 1)) k (k + 1) l (by omega) rfl rfl (by omega)
    clear h1
    have hl := @dfl_len _ p (l.drop (k + 1)) l k
    have ht := @dfl_take _ p (l.drop (k + 1)) l k (by simp; omega)
    simp only [List.length_drop] at hl
    generalize hr : dfl p l k (l.drop (k + 1)) = r at *
    obtain ⟨i, A⟩ := r
    simp only at hl ht h1'
    refine Wp.ev ?_
    refine gs (l := [.a (Task.call 48 [V.t (T.sl 9 (List.map Entity.enc l)), V.t (T.clo g cs)] []) (Res.mk Ex.ret [vi (↑k : Int)] []), .b (flats [ti (↑k : Int)]) true, .b ((↑k : Int) == -1) false, .i IntKind.i64 ((↑k : Int) + 1) ((↑(k + 1) : Int)), .a (Task.loop 52 [0, 1, 0, 1, 1, 1] 1 [V.all 0 none, V.t (T.clo g cs), vi (↑k : Int), vi (↑(k + 1) : Int)] [Ob.arr 9 (List.map Entity.enc l) none false]) (Res.mk (Ex.exit 0) [V.all 0 none, V.t (T.clo g cs), vi (↑i : Int), vi (↑(List.length l) : Int)] [Ob.arr 9 (List.map Entity.enc A) none false]), .w ((0 : Int) ≤ (↑i : Int)), .n (Int.toNat (↑i : Int)) i, .w (i ≤ List.length (List.map Entity.enc A) ∧ List.length (List.map Entity.enc A) ≤ List.length (List.map Entity.enc A)), .n (0 + i) i, .n (List.length (List.map Entity.enc A) - i) (List.length A - i), .n (min (List.length (List.replicate (List.length A - i) (T.agg [ti 0, ti 0, ti 0, ti 0, ti 0, ti 0, ti 0, ti 0, ti 0]))) (List.length A - i)) (List.length A - i), .t (T.sl 0 (List.take i (List.map Entity.enc A) ++ List.take (List.length A - i) (List.replicate (List.length A - i) (T.agg [ti 0, ti 0, ti 0, ti 0, ti 0, ti 0, ti 0, ti 0, ti 0])) ++ List.drop (i + (List.length A - i)) (List.map Entity.enc A))) (T.sl 0 (List.map Entity.enc (List.take i A ++ List.replicate (List.length A - i) (Entity.mk 0 0 0 0 0 0 0 0 0) ++ List.drop (i + (List.length A - i)) A))), .w ((0 : Int) ≤ (↑i : Int)), .n (Int.toNat (↑i : Int)) i, .w ((0 : Nat) ≤ i ∧ i ≤ List.length (List.map Entity.enc (List.take i A ++ List.replicate (List.length A - i) (Entity.mk (0 : Int) (0 : Int) (0 : Int) (0 : Int) (0 : Int) (0 : Int) (0 : Int) (0 : Int) (0 : Int)) ++ List.drop (i + (List.length A - i)) A))), .l 0]) (by kernel_rfl) ⟨o_a h0, o_b (by kernel_rfl), o_b (by kernel_rfl), o_i (w64 (by omega)), o_a h1', o_w (by omega), o_n (by kernel_rfl), o_w ⟨(by (simp; omega)), (by omega)⟩, o_n (by omega), o_n (by simp), o_n (by simp), o_l (nm_eq (nm_app (nm_app (nm_take rfl) (nm_take (nm_rep (e := Entity.mk 0 0 0 0 0 0 0 0 0) rfl))) (nm_drop rfl)) (by simp)), o_w (by omega), o_n (by kernel_rfl), o_w ⟨(by omega), (by (simp; omega))⟩, trivial⟩ ?_
    refine gs (l := [.n (i - 0) i, .t (T.sl 0 (List.take i (List.map Entity.enc (List.take i A ++ List.replicate (List.length A - i) (Entity.mk 0 0 0 0 0 0 0 0 0) ++ List.drop (i + (List.length A - i)) A)))) (T.sl 0 (List.map Entity.enc (List.take i (List.take i A ++ List.replicate (List.length A - i) (Entity.mk 0 0 0 0 0 0 0 0 0) ++ List.drop (i + (List.length A - i)) A))))]) (by kernel_rfl) ⟨o_n (by kernel_rfl), o_l (nm_take rfl), trivial⟩ ?_
    refine rt (a := Res.mk Ex.ret [V.all 1 none] [Ob.dead, Ob.arr 9 (List.map Entity.enc (List.take i (List.take i A ++ List.replicate (List.length A - i) (Entity.mk 0 0 0 0 0 0 0 0 0) ++ List.drop (i + (List.length A - i)) A))) none false]) (by kernel_rfl) ?_
    (refine res_arr ?_; rw [hf, ← ht, List.append_assoc, List.take_append_of_le_length (by simp; omega), List.take_take, Nat.min_self])
theorem f_slices_DeleteFunc_loop_Cross (l : List Cross) (g : Nat) (cs : List T) (p : Cross → Bool) (hb : isFnB cx g = true) (hn : small l)
    (hg : ∀ e ∈ l, Fn cx g (e.enc :: cs) (.bool (p e))) : ∀ (d i j : Nat) (A : List Cross), j + d = l.length → A.length = l.length → A.drop j = l.drop j → i < j →
    Is cx (.loop 70 [0, 1, 0, 1, 1, 1] 1 [.all 0 none, .t (.clo g cs), vi i, vi j] [.arr 15 (A.map Cross.enc) none false])
      ⟨.exit 0, [.all 0 none, .t (.clo g cs), vi (dfl p A i (l.drop j)).1, vi l.length], [.arr 15 ((dfl p A i (l.drop j)).2.map Cross.enc) none false]⟩ := by
  unfold small at hn
  intro d
  induction d with
  | zero =>
    intro i j A hj hA hd hi
    have hl := drop_end (l := l) (i := j) (by omega)
    rw [hl]
    refine Wp.ev ?_
    refine gs (l := [.n (List.length (List.map Cross.enc A)) (List.length A), .b (decide ((↑j : Int) < (↑(List.length A) : Int))) false]) (by kernel_rfl) ⟨o_n (by simp), f_brp (by omega), trivial⟩ ?_
    refine rt (a := Res.mk (Ex.exit 0) [V.all 0 none, V.t (T.clo g cs), vi (↑i : Int), vi (↑j : Int)] [Ob.arr 15 (List.map Cross.enc A) none false]) (by kernel_rfl) ?_
    ((have hq : j = l.length := by omega); subst hq; simp [dfl])
  | succ d ih =>
    intro i j A hj hA hd hi
    have hlt : j < l.length := by omega
    have hy := hg _ (gt_mem hlt)
    have hx : A[j]? = some (gt l j) := by rw [← List.head?_drop, hd, drop_gt hlt]; rfl
    have ih1 := ih i (j + 1) A (by omega) hA (by rw [← List.drop_drop, hd, List.drop_drop]) (by omega)
    have ih2 := ih (i + 1) (j + 1) (A.set i (gt l j)) (by omega) (by simpa using hA) (by rw [List.drop_set_of_lt (by omega), ← List.drop_drop, hd, List.drop_drop]) (by omega)
    clear ih hg
    rw [drop_gt hlt]
    cases hp : p (gt l j) with
    | true =>
      rw [hp] at hy
      refine Wp.ev ?_
      refine gs (l := [.n (List.length (List.map Cross.enc A)) (List.length A), .b (decide ((↑j : Int) < (↑(List.length A) : Int))) true, .w ((0 : Int) ≤ (↑j : Int)), .n (Int.toNat (↑j : Int)) j, .w (j < List.length (List.map Cross.enc A)), .g (List.map Cross.enc A) j (Cross.enc (gt l j)), .w (isFnB cx g = true), .a (Task.call g (V.t (Cross.enc (gt l j)) :: List.map V.t cs) []) (Res.mk Ex.ret [vb true] []), .b (!true) false, .i IntKind.i64 ((↑j : Int) + 1) ((↑(j + 1) : Int)), .a (Task.loop 70 [0, 1, 0, 1, 1, 1] 1 [V.all 0 none, V.t (T.clo g cs), vi (↑i : Int), vi (↑(j + 1) : Int)] [Ob.arr 15 (List.map Cross.enc A) none false]) (Res.mk (Ex.exit 0) [V.all 0 none, V.t (T.clo g cs), vi (↑(dfl p A i (List.drop (j + 1) l)).fst : Int), vi (↑(List.length l) : Int)] [Ob.arr 15 (List.map Cross.enc (dfl p A i (List.drop (j + 1) l)).snd) none false])]) (by kernel_rfl) ⟨o_n (by simp), t_brp (by omega), o_w (by omega), o_n (by kernel_rfl), o_w (by (simp; omega)), o_gm rfl hx (by intro h; cases h), o_w (by assumption), o_a hy, o_b (by kernel_rfl), o_i (w64 (by omega)), o_a ih1, trivial⟩ ?_
      refine rt (a := Res.mk (Ex.exit 0) [V.all 0 none, V.t (T.clo g cs), vi (↑(dfl p A i (List.drop (j + 1) l)).fst : Int), vi (↑(List.length l) : Int)] [Ob.arr 15 (List.map Cross.enc (dfl p A i (List.drop (j + 1) l)).snd) none false]) (by kernel_rfl) ?_
      simp [dfl, hp]
    | false =>
      rw [hp] at hy
      refine Wp.ev ?_
      refine gs (l := [.n (List.length (List.map Cross.enc A)) (List.length A), .b (decide ((↑j : Int) < (↑(List.length A) : Int))) true, .w ((0 : Int) ≤ (↑j : Int)), .n (Int.toNat (↑j : Int)) j, .w (j < List.length (List.map Cross.enc A)), .g (List.map Cross.enc A) j (Cross.enc (gt l j)), .w (isFnB cx g = true), .a (Task.call g (V.t (Cross.enc (gt l j)) :: List.map V.t cs) []) (Res.mk Ex.ret [vb false] []), .b (!false) true, .w ((0 : Int) ≤ (↑i : Int)), .n (Int.toNat (↑i : Int)) i, .w (i < List.length (List.map Cross.enc A)), .w (i < List.length (List.map Cross.enc A)), .t (T.sl 0 (List.set (List.map Cross.enc A) i (Cross.enc (gt l j)))) (T.sl 0 (List.map Cross.enc (List.set A i (gt l j)))), .i IntKind.i64 ((↑i : Int) + 1) ((↑(i + 1) : Int)), .i IntKind.i64 ((↑j : Int) + 1) ((↑(j + 1) : Int))]) (by kernel_rfl) ⟨o_n (by simp), t_brp (by omega), o_w (by omega), o_n (by kernel_rfl), o_w (by (simp; omega)), o_gm rfl hx (by intro h; cases h), o_w (by assumption), o_a hy, o_b (by kernel_rfl), o_w (by omega), o_n (by kernel_rfl), o_w (by (simp; omega)), o_w (by (simp; omega)), o_l (nm_set rfl rfl), o_i (w64 (by omega)), o_i (w64 (by omega)), trivial⟩ ?_
      refine gs (l := [.a (Task.loop 70 [0, 1, 0, 1, 1, 1] 1 [V.all 0 none, V.t (T.clo g cs), vi (↑(i + 1) : Int), vi (↑(j + 1) : Int)] [Ob.arr 15 (List.map Cross.enc (List.set A i (gt l j))) none false]) (Res.mk (Ex.exit 0) [V.all 0 none, V.t (T.clo g cs), vi (↑(dfl p (List.set A i (gt l j)) (i + 1) (List.drop (j + 1) l)).fst : Int), vi (↑(List.length l) : Int)] [Ob.arr 15 (List.map Cross.enc (dfl p (List.set A i (gt l j)) (i + 1) (List.drop (j + 1) l)).snd) none false])]) (by kernel_rfl) ⟨o_a ih2, trivial⟩ ?_
      refine rt (a := Res.mk (Ex.exit 0) [V.all 0 none, V.t (T.clo g cs), vi (↑(dfl p (List.set A i (gt l j)) (i + 1) (List.drop (j + 1) l)).fst : Int), vi (↑(List.length l) : Int)] [Ob.arr 15 (List.map Cross.enc (dfl p (List.set A i (gt l j)) (i + 1) (List.drop (j + 1) l)).snd) none false]) (by kernel_rfl) ?_
      simp [dfl, hp]
theorem f_slices_DeleteFunc_Cross (l : List Cross) (g : Nat) (cs : List T) (p : Cross → Bool) (hb : isFnB cx g = true) (hn : small l)
    (hg : ∀ e ∈ l, Fn cx g (e.enc :: cs) (.bool (p e))) : Is cx (.call 70 [.all 0 none, .t (.clo g cs)] [.arr 15 (l.map Cross.enc) none false])
      ⟨.ret, [.all 1 none], [.dead, .arr 15 ((l.filter fun e => !p e).map Cross.enc) none false]⟩ := by
  have h0 := f_slices_IndexFunc_Cross l g cs p hb hn hg
  have h1 := f_slices_DeleteFunc_loop_Cross l g cs p hb hn hg
  clear hg
  unfold pos at h0
  have hn' : l.length ≤ 1000000 := hn
  cases hq : l.findIdx? p with
  | none =>
    rw [hq] at h0; simp only at h0
    have hf := find_none hq
    refine Wp.ev ?_
    refine gs (l := [.a (Task.call 88 [V.t (T.sl 15 (List.map Cross.enc l)), V.t (T.clo g cs)] []) (Res.mk Ex.ret [vi (-1)] []), .b (flats [ti (-1)]) true, .b (-1 == -1) true]) (by kernel_rfl) ⟨o_a h0, o_b (by kernel_rfl), o_b (by kernel_rfl), trivial⟩ ?_
    refine rt (a := Res.mk Ex.ret [V.all 1 none] [Ob.dead, Ob.arr 15 (List.map Cross.enc l) none false]) (by kernel_rfl) ?_
    (refine res_arr ?_; rw [hf])
  | some k =>
    rw [hq] at h0; simp only at h0
    obtain ⟨hk, hf⟩ := find_some hq
    have h1' := h1 (l.length - (k + 1)) k (k + 1) l (by omega) rfl rfl (by omega)
    clear h1
    have hl := @dfl_len _ p (l.drop (k + 1)) l k
    have ht := @dfl_take _ p (l.drop (k + 1)) l k (by simp; omega)
    simp only [List.length_drop] at hl
    generalize hr : dfl p l k (l.drop (k + 1)) = r at *
    obtain ⟨i, A⟩ := r
    simp only at hl ht h1'
    refine Wp.ev ?_
    refine gs (l := [.a (Task.call 88 [V.t (T.sl 15 (List.map Cross.enc l)), V.t (T.clo g cs)] []) (Res.mk Ex.ret [vi (↑k : Int)] []), .b (flats [ti (↑k : Int)]) true, .b ((↑k : Int) == -1) false, .i IntKind.i64 ((↑k : Int) + 1) ((↑(k + 1) : Int)), .a (Task.loop 70 [0, 1, 0, 1, 1, 1] 1 [V.all 0 none, V.t (T.clo g cs), vi (↑k : Int), vi (↑(k + 1) : Int)] [Ob.arr 15 (List.map Cross.enc l) none false]) (Res.mk (Ex.exit 0) [V.all 0 none, V.t (T.clo g cs), vi (↑i : Int), vi (↑(List.length l) : Int)] [Ob.arr 15 (List.map Cross.enc A) none false]), .w ((0 : Int) ≤ (↑i : Int)), .n (Int.toNat (↑i : Int)) i, .w (i ≤ List.length (List.map Cross.enc A) ∧ List.length (List.map Cross.enc A) ≤ List.length (List.map Cross.enc A)), .n (0 + i) i, .n (List.length (List.map Cross.enc A) - i) (List.length A - i), .n (min (List.length (List.replicate (List.length A - i) (T.agg [ti 0, ti 0, ti 0, ti 0, ti 0, ti 0, ti 0, ti 0, ti 0, ti 0, ti 0, ti 0, ti 0, ti 0, ti 0]))) (List.length A - i)) (List.length A - i), .t (T.sl 0 (List.take i (List.map Cross.enc A) ++ List.take (List.length A - i) (List.replicate (List.length A - i) (T.agg [ti 0, ti 0, ti 0, ti 0, ti 0, ti 0, ti 0, ti 0, ti 0, ti 0, ti 0, ti 0, ti 0, ti 0, ti 0])) ++ List.drop (i + (List.length A - i)) (List.map Cross.enc A))) (T.sl 0 (List.map Cross.enc (List.take i A ++ List.replicate (List.length A - i) (Cross.mk 0 0 0 0 (Entity.mk 0 0 0 0 0 0 0 0 0) 0 0) ++ List.drop (i + (List.length A - i)) A))), .w ((0 : Int) ≤ (↑i : Int)), .n (Int.toNat (↑i : Int)) i, .w ((0 : Nat) ≤ i ∧ i ≤ List.length (List.map Cross.enc (List.take i A ++ List.replicate (List.length A - i) (Cross.mk (0 : Int) (0 : Int) (0 : Int) (0 : Int) (Entity.mk (0 : Int) (0 : Int) (0 : Int) (0 : Int) (0 : Int) (0 : Int) (0 : Int) (0 : Int) (0 : Int)) (0 : Int) (0 : Int)) ++ List.drop (i + (List.length A - i)) A))), .l 0]) (by kernel_rfl) ⟨o_a h0, o_b (by kernel_rfl), o_b (by kernel_rfl), o_i (w64 (by omega)), o_a h1', o_w (by omega), o_n (by kernel_rfl), o_w ⟨(by (simp; omega)), (by omega)⟩, o_n (by omega), o_n (by simp), o_n (by simp), o_l (nm_eq (nm_app (nm_app (nm_take rfl) (nm_take (nm_rep (e := Cross.mk 0 0 0 0 (Entity.mk 0 0 0 0 0 0 0 0 0) 0 0) rfl))) (nm_drop rfl)) (by simp)), o_w (by omega), o_n (by kernel_rfl), o_w ⟨(by omega), (by (simp; omega))⟩, trivial⟩ ?_
    refine gs (l := [.n (i - 0) i, .t (T.sl 0 (List.take i (List.map Cross.enc (List.take i A ++ List.replicate (List.length A - i) (Cross.mk 0 0 0 0 (Entity.mk 0 0 0 0 0 0 0 0 0) 0 0) ++ List.drop (i + (List.length A - i)) A)))) (T.sl 0 (List.map Cross.enc (List.take i (List.take i A ++ List.replicate (List.length A - i) (Cross.mk 0 0 0 0 (Entity.mk 0 0 0 0 0 0 0 0 0) 0 0) ++ List.drop (i + (List.length A - i)) A))))]) (by kernel_rfl) ⟨o_n (by kernel_rfl), o_l (nm_take rfl), trivial⟩ ?_
    refine rt (a := Res.mk Ex.ret [V.all 1 none] [Ob.dead, Ob.arr 15 (List.map Cross.enc (List.take i (List.take i A ++ List.replicate (List.length A - i) (Cross.mk 0 0 0 0 (Entity.mk 0 0 0 0 0 0 0 0 0) 0 0) ++ List.drop (i + (List.length A - i)) A))) none false]) (by kernel_rfl) ?_
    (refine res_arr ?_; rw [hf, ← ht, List.append_assoc, List.take_append_of_le_length (by simp; omega), List.take_take, Nat.min_self])
end Go.Eva.S1

/- Eva, part 44: lists of entities, in plain words. -/
namespace Go.Eva

def find (l : List Entity) (id : Int) : Int := pos (fun e => e.id == id) l
/-- One is put where it belongs. -/
def ins (l : List Entity) (e : Entity) : List Entity := match l.findIdx? fun x => decide (x.id ≥ e.id) with
  | some k => l.take k ++ e :: l.drop k
  | none => l ++ [e]
def put1 (l : List Entity) (e : Entity) : List Entity := match l.findIdx? fun x => x.id == e.id with
  | some _ => l
  | none => ins l e
def puts (l m : List Entity) : List Entity := m.foldl put1 l
def has (ids : List Int) (id : Int) : Bool := ids.any fun x => x == id
def drops (l : List Entity) (ids : List Int) : List Entity := l.filter fun e => !has ids e.id
def things (l : List Entity) : Int := (l.countP fun e => e.kind != 1 : Nat)
def sortedL : List Entity → Bool
  | a :: b :: r => decide (a.id < b.id) && sortedL (b :: r)
  | _ => true
def sameL {α : Type} (p : α → α → Bool) : List α → List α → Bool
  | a :: r, b :: s => p a b && sameL p r s
  | _, _ => true

theorem pos_none {α : Type} {p : α → Bool} {l : List α} (h : l.findIdx? p = none) : pos p l = -1 := by simp [pos, h]
theorem pos_some {α : Type} {p : α → Bool} {l : List α} {k : Nat} (h : l.findIdx? p = some k) : pos p l = (k : Int) := by simp [pos, h]
theorem ins_len {l : List Entity} {e : Entity} : (ins l e).length = l.length + 1 := by
  unfold ins
  split
  · rename_i k h
    have := (List.findIdx?_eq_some_iff_getElem.1 h).1
    simp; omega
  · simp
theorem put1_len {l : List Entity} {e : Entity} : l.length ≤ (put1 l e).length ∧ (put1 l e).length ≤ l.length + 1 := by
  unfold put1
  split
  · omega
  · rw [ins_len]; omega
theorem puts_len {m l : List Entity} : l.length ≤ (puts l m).length ∧ (puts l m).length ≤ l.length + m.length := by
  induction m generalizing l with
  | nil => simp [puts]
  | cons e m ih =>
    have h1 := @put1_len l e
    have h2 := @ih (put1 l e)
    have h3 : puts l (e :: m) = puts (put1 l e) m := rfl
    rw [h3]
    simp only [List.length_cons]
    omega
theorem sorted_gt {l : List Entity} {i : Nat} (h : i + 1 < l.length) : sortedL (l.drop i) = (decide ((gt l i).id < (gt l (i + 1)).id) && sortedL (l.drop (i + 1))) := by
  rw [drop_gt (by omega), drop_gt h, sortedL]
theorem sorted_end {l : List Entity} {i : Nat} (h : l.length ≤ i + 1) : sortedL (l.drop i) = true := by
  rcases Nat.lt_or_ge i l.length with h1 | h1
  · rw [drop_gt h1, drop_end (by omega)]; rfl
  · rw [drop_end h1]; rfl
theorem countP_gt {l : List Entity} {i : Nat} (p : Entity → Bool) (h : i < l.length) : (l.drop i).countP p = (if p (gt l i) = true then 1 else 0) + (l.drop (i + 1)).countP p := by
  rw [drop_gt h, List.countP_cons]; omega
theorem filter_gt {α : Type} [Inhabited α] {l : List α} {i : Nat} (p : α → Bool) (h : i < l.length) : (l.drop i).filter p = (if p (gt l i) = true then [gt l i] else []) ++ (l.drop (i + 1)).filter p := by
  rw [drop_gt h, List.filter_cons]; split <;> simp
theorem has_pos {l : List Int} {x : Int} : (decide (pos (fun y => x == y) l ≥ 0)) = has l x := by
  unfold has
  cases h : l.findIdx? fun y => x == y with
  | none =>
    rw [pos_none h]
    have := List.findIdx?_eq_none_iff.1 h
    symm
    rw [show (l.any fun y => y == x) = false from ?_]
    · rfl
    · rw [List.any_eq_false]
      intro y hy
      have := this y hy
      simp at this ⊢
      exact fun e => this e.symm
  | some k =>
    rw [pos_some h]
    obtain ⟨hk, h1, _⟩ := List.findIdx?_eq_some_iff_getElem.1 h
    symm
    simp only [ge_iff_le, Int.natCast_nonneg, decide_true]
    rw [List.any_eq_true]
    exact ⟨l[k], List.getElem_mem _, by simp at h1 ⊢; exact h1.symm⟩
theorem any_gt {α : Type} [Inhabited α] {l : List α} {i : Nat} (p : α → Bool) (h : i < l.length) : (l.drop i).any p = (p (gt l i) || (l.drop (i + 1)).any p) := by
  rw [drop_gt h, List.any_cons]
theorem same_gt {α : Type} [Inhabited α] {p : α → α → Bool} {a b : List α} {i : Nat} (h : i < a.length) (h' : i < b.length) : sameL p (a.drop i) (b.drop i) = (p (gt a i) (gt b i) && sameL p (a.drop (i + 1)) (b.drop (i + 1))) := by
  rw [drop_gt h, drop_gt h', sameL]
theorem same_eq {α : Type} [DecidableEq α] : ∀ {a b : List α}, a.length = b.length → sameL (fun x y => decide (x = y)) a b = decide (a = b)
  | [], [], _ => rfl
  | [], _ :: _, h => by simp at h
  | _ :: _, [], h => by simp at h
  | x :: a, y :: b, h => by
    rw [sameL, same_eq (by simpa using h)]
    by_cases h1 : x = y <;> simp [h1]
/-- Are two lists alike? -/
def plain {α : Type} [DecidableEq α] (a b : List α) : Bool := decide (a = b)
end Go.Eva

/- Entities. -/
namespace Go.Eva.S1
theorem f_entity_Find_1 (e : Entity) (id : Int) : Fn cx 51 [e.enc, .ip 1 (ti id) 0] (.bool (e.id == id)) := by
  refine Wp.ev ?_
  refine rt (a := Res.mk Ex.ret [vb (e.id == id)] []) (by kernel_rfl) ?_
  rfl
theorem f_entity_Put_1 (e x : Entity) : Fn cx 49 [x.enc, .ip 9 e.enc 0] (.bool (decide (x.id ≥ e.id))) := by
  refine Wp.ev ?_
  refine rt (a := Res.mk Ex.ret [vb (decide (x.id ≥ e.id))] []) (by kernel_rfl) ?_
  rfl
theorem f_entity_Find (l : List Entity) (id : Int) (hl : small l) : Fn cx 16 [.sl 9 (l.map Entity.enc), ti id] (ti (find l id)) := by
  have h := f_slices_IndexFunc_Entity l 51 [.ip 1 (ti id) 0] (fun e => e.id == id) (by kernel_rfl) hl (fun e _ => f_entity_Find_1 e id)
  refine Wp.ev ?_
  refine gs (l := [.a (Task.call 48 [V.t (T.sl 9 (List.map Entity.enc l)), V.t (T.clo 51 [T.ip 1 (ti id) 0])] []) (Res.mk Ex.ret [vi (pos (fun (e : Entity) ↦ e.id == id) l)] []), .b (flats [ti (pos (fun (e : Entity) ↦ e.id == id) l)]) true]) (by kernel_rfl) ⟨o_a h, o_b (by kernel_rfl), trivial⟩ ?_
  refine rt (a := Res.mk Ex.ret [vi (pos (fun (e : Entity) ↦ e.id == id) l)] []) (by kernel_rfl) ?_
  rfl
theorem f_entity_Put_loop (m : List Entity) (hm : m.length ≤ 400000) : ∀ (d i : Nat) (A : List Entity), i + d = m.length → A.length ≤ 400000 + i →
    Is cx (.loop 14 [0, 1, 0, 1, 1] 0 [.all 0 none, .t (.sl 9 (m.map Entity.enc)), vi m.length, vi i] [.arr 9 (A.map Entity.enc) none false])
      ⟨.exit 0, [.all 0 none, .t (.sl 9 (m.map Entity.enc)), vi m.length, vi m.length], [.arr 9 ((puts A (m.drop i)).map Entity.enc) none false]⟩ := by
  intro d
  induction d with
  | zero =>
    intro i A hi hA
    rw [drop_end (by omega)]
    refine Wp.ev ?_
    refine gs (l := [.b (decide ((↑i : Int) < (↑(List.length m) : Int))) false]) (by kernel_rfl) ⟨f_brp (by omega), trivial⟩ ?_
    refine rt (a := Res.mk (Ex.exit 0) [V.all 0 none, V.t (T.sl 9 (List.map Entity.enc m)), vi (↑(List.length m) : Int), vi (↑i : Int)] [Ob.arr 9 (List.map Entity.enc A) none false]) (by kernel_rfl) ?_
    ((have hq : i = m.length := by omega); subst hq; rfl)
  | succ d ih =>
    intro i A hi hA
    have hlt : i < m.length := by omega
    rw [drop_gt hlt]
    show Is cx _ ⟨_, _, [.arr 9 ((puts (put1 A (gt m i)) (m.drop (i + 1))).map Entity.enc) none false]⟩
    have hl := @put1_len A (gt m i)
    have ih1 := ih (i + 1) (put1 A (gt m i)) (by omega) (by omega)
    clear ih
    have hs : small A := by unfold small; omega
    have hF := f_entity_Find A (gt m i).id hs
    have hG := f_slices_IndexFunc_Entity A 49 [.ip 9 (gt m i).enc 0] (fun x => decide (x.id ≥ (gt m i).id)) (by kernel_rfl) hs (fun x _ => f_entity_Put_1 (gt m i) x)
    clear hl
    unfold find at hF
    unfold put1 at *
    cases hq : A.findIdx? fun x => x.id == (gt m i).id with
    | some k =>
      rw [hq] at ih1
      rw [pos_some hq] at hF
      simp only at ih1 ⊢
      refine Wp.ev ?_
      refine gs (l := [.b (decide ((↑i : Int) < (↑(List.length m) : Int))) true, .w ((0 : Int) ≤ (↑i : Int)), .n (Int.toNat (↑i : Int)) i, .g (List.map Entity.enc m) i (Entity.enc (gt m i)), .a (Task.call 16 [V.t (T.sl 9 (List.map Entity.enc A)), vi (gt m i).id] []) (Res.mk Ex.ret [vi (↑k : Int)] []), .b (flats [ti (↑k : Int)]) true, .b (decide ((↑k : Int) ≥ 0)) true, .i IntKind.i64 ((↑i : Int) + 1) ((↑(i + 1) : Int)), .a (Task.loop 14 [0, 1, 0, 1, 1] 0 [V.all 0 none, V.t (T.sl 9 (List.map Entity.enc m)), vi (↑(List.length m) : Int), vi (↑(i + 1) : Int)] [Ob.arr 9 (List.map Entity.enc A) none false]) (Res.mk (Ex.exit 0) [V.all 0 none, V.t (T.sl 9 (List.map Entity.enc m)), vi (↑(List.length m) : Int), vi (↑(List.length m) : Int)] [Ob.arr 9 (List.map Entity.enc (puts A (List.drop (i + 1) m))) none false])]) (by kernel_rfl) ⟨t_brp (by omega), o_w (by omega), o_n (by kernel_rfl), o_gt rfl (by assumption) (by intro h; cases h), o_a hF, o_b (by kernel_rfl), o_b (by kernel_rfl), o_i (w64 (by omega)), o_a ih1, trivial⟩ ?_
      refine rt (a := Res.mk (Ex.exit 0) [V.all 0 none, V.t (T.sl 9 (List.map Entity.enc m)), vi (↑(List.length m) : Int), vi (↑(List.length m) : Int)] [Ob.arr 9 (List.map Entity.enc (puts A (List.drop (i + 1) m))) none false]) (by kernel_rfl) ?_
      rfl
    | none =>
      rw [hq] at ih1
      rw [pos_none hq] at hF
      simp only at ih1 ⊢
      unfold ins at *
      cases hp : A.findIdx? fun x => decide (x.id ≥ (gt m i).id) with
      | some k =>
        rw [hp] at ih1
        rw [pos_some hp] at hG
        simp only at ih1 ⊢
        have hk := (List.findIdx?_eq_some_iff_getElem.1 hp).1
        refine Wp.ev ?_
        refine gs (l := [.b (decide ((↑i : Int) < (↑(List.length m) : Int))) true, .w ((0 : Int) ≤ (↑i : Int)), .n (Int.toNat (↑i : Int)) i, .g (List.map Entity.enc m) i (Entity.enc (gt m i)), .a (Task.call 16 [V.t (T.sl 9 (List.map Entity.enc A)), vi (gt m i).id] []) (Res.mk Ex.ret [vi (-1)] []), .b (flats [ti (-1)]) true, .b (decide (-1 ≥ 0)) false, .a (Task.call 48 [V.t (T.sl 9 (List.map Entity.enc A)), V.t (T.clo 49 [T.ip 9 (Entity.enc (gt m i)) 0])] []) (Res.mk Ex.ret [vi (↑k : Int)] []), .b (flats [ti (↑k : Int)]) true, .b (decide ((↑k : Int) < 0)) false, .a (Task.call 50 [V.all 0 none, vi (↑k : Int), V.fit 9 [Entity.enc (gt m i)]] [Ob.arr 9 (List.map Entity.enc A) none false]) (Res.mk Ex.ret [V.all 1 none] [Ob.dead, Ob.arr 9 (List.map Entity.enc (List.take k A ++ gt m i :: List.drop k A)) none false]), .i IntKind.i64 ((↑i : Int) + 1) ((↑(i + 1) : Int)), .a (Task.loop 14 [0, 1, 0, 1, 1] 0 [V.all 0 none, V.t (T.sl 9 (List.map Entity.enc m)), vi (↑(List.length m) : Int), vi (↑(i + 1) : Int)] [Ob.arr 9 (List.map Entity.enc (List.take k A ++ gt m i :: List.drop k A)) none false]) (Res.mk (Ex.exit 0) [V.all 0 none, V.t (T.sl 9 (List.map Entity.enc m)), vi (↑(List.length m) : Int), vi (↑(List.length m) : Int)] [Ob.arr 9 (List.map Entity.enc (puts (List.take k A ++ gt m i :: List.drop k A) (List.drop (i + 1) m))) none false])]) (by kernel_rfl) ⟨t_brp (by omega), o_w (by omega), o_n (by kernel_rfl), o_gt rfl (by assumption) (by intro h; cases h), o_a hF, o_b (by kernel_rfl), o_b (by kernel_rfl), o_a hG, o_b (by kernel_rfl), o_b (by kernel_rfl), o_a (f_slices_Insert_Entity _ _ _ (by assumption) (by omega)), o_i (w64 (by omega)), o_a ih1, trivial⟩ ?_
        refine rt (a := Res.mk (Ex.exit 0) [V.all 0 none, V.t (T.sl 9 (List.map Entity.enc m)), vi (↑(List.length m) : Int), vi (↑(List.length m) : Int)] [Ob.arr 9 (List.map Entity.enc (puts (List.take k A ++ gt m i :: List.drop k A) (List.drop (i + 1) m))) none false]) (by kernel_rfl) ?_
        rfl
      | none =>
        rw [hp] at ih1
        rw [pos_none hp] at hG
        simp only at ih1 ⊢
        have hI := f_slices_Insert_Entity A (gt m i) A.length hs (Nat.le_refl _)
        rw [List.take_length, List.drop_length] at hI
        refine Wp.ev ?_
        refine gs (l := [.b (decide ((↑i : Int) < (↑(List.length m) : Int))) true, .w ((0 : Int) ≤ (↑i : Int)), .n (Int.toNat (↑i : Int)) i, .g (List.map Entity.enc m) i (Entity.enc (gt m i)), .a (Task.call 16 [V.t (T.sl 9 (List.map Entity.enc A)), vi (gt m i).id] []) (Res.mk Ex.ret [vi (-1)] []), .b (flats [ti (-1)]) true, .b (decide (-1 ≥ 0)) false, .a (Task.call 48 [V.t (T.sl 9 (List.map Entity.enc A)), V.t (T.clo 49 [T.ip 9 (Entity.enc (gt m i)) 0])] []) (Res.mk Ex.ret [vi (-1)] []), .b (flats [ti (-1)]) true, .b (decide (-1 < 0)) true, .n (List.length (List.map Entity.enc A)) (List.length A), .a (Task.call 50 [V.all 0 none, vi (↑(List.length A) : Int), V.fit 9 [Entity.enc (gt m i)]] [Ob.arr 9 (List.map Entity.enc A) none false]) (Res.mk Ex.ret [V.all 1 none] [Ob.dead, Ob.arr 9 (List.map Entity.enc (A ++ [gt m i])) none false]), .i IntKind.i64 ((↑i : Int) + 1) ((↑(i + 1) : Int)), .a (Task.loop 14 [0, 1, 0, 1, 1] 0 [V.all 0 none, V.t (T.sl 9 (List.map Entity.enc m)), vi (↑(List.length m) : Int), vi (↑(i + 1) : Int)] [Ob.arr 9 (List.map Entity.enc (A ++ [gt m i])) none false]) (Res.mk (Ex.exit 0) [V.all 0 none, V.t (T.sl 9 (List.map Entity.enc m)), vi (↑(List.length m) : Int), vi (↑(List.length m) : Int)] [Ob.arr 9 (List.map Entity.enc (puts (A ++ [gt m i]) (List.drop (i + 1) m))) none false])]) (by kernel_rfl) ⟨t_brp (by omega), o_w (by omega), o_n (by kernel_rfl), o_gt rfl (by assumption) (by intro h; cases h), o_a hF, o_b (by kernel_rfl), o_b (by kernel_rfl), o_a hG, o_b (by kernel_rfl), o_b (by kernel_rfl), o_n (by simp), o_a hI, o_i (w64 (by omega)), o_a ih1, trivial⟩ ?_
        refine rt (a := Res.mk (Ex.exit 0) [V.all 0 none, V.t (T.sl 9 (List.map Entity.enc m)), vi (↑(List.length m) : Int), vi (↑(List.length m) : Int)] [Ob.arr 9 (List.map Entity.enc (puts (A ++ [gt m i]) (List.drop (i + 1) m))) none false]) (by kernel_rfl) ?_
        rfl
theorem f_entity_Put (l m : List Entity) (hl : l.length ≤ 400000) (hm : m.length ≤ 400000) : Is cx (.call 14 [.t (.sl 9 (l.map Entity.enc)), .t (.sl 9 (m.map Entity.enc))] []) ⟨.ret, [.all 0 none], [.arr 9 ((puts l m).map Entity.enc) none false]⟩ := by
  have hs : small l := by unfold small; omega
  have h := f_entity_Put_loop m hm m.length 0 l (by omega) (by omega)
  rw [List.drop_zero] at h
  refine Wp.ev ?_
  refine gs (l := [.a (Task.call 47 [V.t (T.sl 9 (List.map Entity.enc l))] []) (Res.mk Ex.ret [V.all 0 none] [Ob.arr 9 (List.map Entity.enc l) none false]), .n (List.length (List.map Entity.enc m)) (List.length m), .a (Task.loop 14 [0, 1, 0, 1, 1] 0 [V.all 0 none, V.t (T.sl 9 (List.map Entity.enc m)), vi (↑(List.length m) : Int), vi 0] [Ob.arr 9 (List.map Entity.enc l) none false]) (Res.mk (Ex.exit 0) [V.all 0 none, V.t (T.sl 9 (List.map Entity.enc m)), vi (↑(List.length m) : Int), vi (↑(List.length m) : Int)] [Ob.arr 9 (List.map Entity.enc (puts l m)) none false])]) (by kernel_rfl) ⟨o_a (f_slices_Clone_Entity _ (by assumption)), o_n (by simp), o_a h, trivial⟩ ?_
  refine rt (a := Res.mk Ex.ret [V.all 0 none] [Ob.arr 9 (List.map Entity.enc (puts l m)) none false]) (by kernel_rfl) ?_
  rfl
theorem f_entity_Sorted_loop (l : List Entity) (hn : small l) : ∀ (d i : Nat), i + d = l.length → 1 ≤ i →
    ∃ k : Nat, Is cx (.loop 15 [0, 1, 0, 1] 0 [.t (.sl 9 (l.map Entity.enc)), vb false, vi l.length, vi i] []) (match sortedL (l.drop (i - 1)) with
       | true => ⟨.exit 0, [.t (.sl 9 (l.map Entity.enc)), vb false, vi l.length, vi l.length], []⟩
       | false => ⟨.ret, [.t (.sl 9 (l.map Entity.enc)), vb false, vi l.length, vi k], []⟩) := by
  unfold small at hn
  intro d
  induction d with
  | zero =>
    intro i hi h1
    refine ⟨0, ?_⟩
    rw [sorted_end (by omega)]
    refine Wp.ev ?_
    refine gs (l := [.b (decide ((↑i : Int) < (↑(List.length l) : Int))) false]) (by kernel_rfl) ⟨f_brp (by omega), trivial⟩ ?_
    refine rt (a := Res.mk (Ex.exit 0) [V.t (T.sl 9 (List.map Entity.enc l)), vb false, vi (↑(List.length l) : Int), vi (↑i : Int)] []) (by kernel_rfl) ?_
    ((have hq : i = l.length := by omega); subst hq; rfl)
  | succ d ih =>
    intro i hi h1
    have hlt : i < l.length := by omega
    obtain ⟨k, ih1⟩ := ih (i + 1) (by omega) (by omega)
    clear ih
    obtain ⟨j, rfl⟩ : ∃ j, i = j + 1 := ⟨i - 1, by omega⟩
    simp only [Nat.add_sub_cancel] at *
    rw [sorted_gt hlt]
    by_cases hp : (gt l j).id < (gt l (j + 1)).id
    · simp only [hp, decide_true, Bool.true_and]
      refine ⟨k, ?_⟩
      cases hq : sortedL (l.drop (j + 1)) with
      | true => rw [hq] at ih1
                refine Wp.ev ?_
                refine gs (l := [.b (decide ((↑(j + 1) : Int) < (↑(List.length l) : Int))) true, .b (decide ((↑(j + 1) : Int) > 0)) true, .tt, .tt, .w ((0 : Int) ≤ (↑(j + (1 : Nat)) : Int)), .n (Int.toNat (↑(j + 1) : Int)) (j + 1), .g (List.map Entity.enc l) (j + 1) (Entity.enc (gt l (j + 1))), .tt, .tt, .tt, .tt, .i IntKind.i64 ((↑(j + 1) : Int) - 1) ((↑(j + 1) : Int) - 1), .tt, .w ((0 : Int) ≤ (↑(j + (1 : Nat)) : Int) - (1 : Int)), .n (Int.toNat ((↑(j + 1) : Int) - 1)) j, .g (List.map Entity.enc l) j (Entity.enc (gt l j))]) (by kernel_rfl) ⟨t_brp (by omega), t_brp (by omega), o_w (by omega), o_n (by kernel_rfl), o_gt rfl (by assumption) (by intro h; cases h), o_i (w64 (by omega)), o_w (by omega), o_n (by omega), o_gt rfl (by omega) (by intro h; cases h), trivial⟩ ?_
                refine gs (l := [.tt, .tt, .tt, .tt, .tt, .b (decide ((gt l (j + 1)).id ≤ (gt l j).id)) false, .i IntKind.i64 ((↑(j + 1) : Int) + 1) ((↑(j + 1 + 1) : Int)), .a (Task.loop 15 [0, 1, 0, 1] 0 [V.t (T.sl 9 (List.map Entity.enc l)), vb false, vi (↑(List.length l) : Int), vi (↑(j + 1 + 1) : Int)] []) (Res.mk (Ex.exit 0) [V.t (T.sl 9 (List.map Entity.enc l)), vb false, vi (↑(List.length l) : Int), vi (↑(List.length l) : Int)] [])]) (by kernel_rfl) ⟨f_brp (by omega), o_i (w64 (by omega)), o_a ih1, trivial⟩ ?_
                refine rt (a := Res.mk (Ex.exit 0) [V.t (T.sl 9 (List.map Entity.enc l)), vb false, vi (↑(List.length l) : Int), vi (↑(List.length l) : Int)] []) (by kernel_rfl) ?_
                rfl
      | false => rw [hq] at ih1
                 refine Wp.ev ?_
                 refine gs (l := [.b (decide ((↑(j + 1) : Int) < (↑(List.length l) : Int))) true, .b (decide ((↑(j + 1) : Int) > 0)) true, .tt, .tt, .w ((0 : Int) ≤ (↑(j + (1 : Nat)) : Int)), .n (Int.toNat (↑(j + 1) : Int)) (j + 1), .g (List.map Entity.enc l) (j + 1) (Entity.enc (gt l (j + 1))), .tt, .tt, .tt, .tt, .i IntKind.i64 ((↑(j + 1) : Int) - 1) ((↑(j + 1) : Int) - 1), .tt, .w ((0 : Int) ≤ (↑(j + (1 : Nat)) : Int) - (1 : Int)), .n (Int.toNat ((↑(j + 1) : Int) - 1)) j, .g (List.map Entity.enc l) j (Entity.enc (gt l j))]) (by kernel_rfl) ⟨t_brp (by omega), t_brp (by omega), o_w (by omega), o_n (by kernel_rfl), o_gt rfl (by assumption) (by intro h; cases h), o_i (w64 (by omega)), o_w (by omega), o_n (by omega), o_gt rfl (by omega) (by intro h; cases h), trivial⟩ ?_
                 refine gs (l := [.tt, .tt, .tt, .tt, .tt, .b (decide ((gt l (j + 1)).id ≤ (gt l j).id)) false, .i IntKind.i64 ((↑(j + 1) : Int) + 1) ((↑(j + 1 + 1) : Int)), .a (Task.loop 15 [0, 1, 0, 1] 0 [V.t (T.sl 9 (List.map Entity.enc l)), vb false, vi (↑(List.length l) : Int), vi (↑(j + 1 + 1) : Int)] []) (Res.mk Ex.ret [V.t (T.sl 9 (List.map Entity.enc l)), vb false, vi (↑(List.length l) : Int), vi (↑k : Int)] [])]) (by kernel_rfl) ⟨f_brp (by omega), o_i (w64 (by omega)), o_a ih1, trivial⟩ ?_
                 refine rt (a := Res.mk Ex.ret [V.t (T.sl 9 (List.map Entity.enc l)), vb false, vi (↑(List.length l) : Int), vi (↑k : Int)] []) (by kernel_rfl) ?_
                 rfl
    · simp only [hp, decide_false, Bool.false_and]
      refine ⟨j + 1, ?_⟩
      refine Wp.ev ?_
      refine gs (l := [.b (decide ((↑(j + 1) : Int) < (↑(List.length l) : Int))) true, .b (decide ((↑(j + 1) : Int) > 0)) true, .tt, .tt, .w ((0 : Int) ≤ (↑(j + (1 : Nat)) : Int)), .n (Int.toNat (↑(j + 1) : Int)) (j + 1), .g (List.map Entity.enc l) (j + 1) (Entity.enc (gt l (j + 1))), .tt, .tt, .tt, .tt, .i IntKind.i64 ((↑(j + 1) : Int) - 1) ((↑(j + 1) : Int) - 1), .tt, .w ((0 : Int) ≤ (↑(j + (1 : Nat)) : Int) - (1 : Int)), .n (Int.toNat ((↑(j + 1) : Int) - 1)) j, .g (List.map Entity.enc l) j (Entity.enc (gt l j))]) (by kernel_rfl) ⟨t_brp (by omega), t_brp (by omega), o_w (by omega), o_n (by kernel_rfl), o_gt rfl (by assumption) (by intro h; cases h), o_i (w64 (by omega)), o_w (by omega), o_n (by omega), o_gt rfl (by omega) (by intro h; cases h), trivial⟩ ?_
      refine gs (l := [.tt, .tt, .tt, .tt, .tt, .b (decide ((gt l (j + 1)).id ≤ (gt l j).id)) true]) (by kernel_rfl) ⟨t_brp (by omega), trivial⟩ ?_
      refine rt (a := Res.mk Ex.ret [V.t (T.sl 9 (List.map Entity.enc l)), vb false, vi (↑(List.length l) : Int), vi (↑(j + 1) : Int)] []) (by kernel_rfl) ?_
      rfl
theorem f_entity_Sorted (l : List Entity) (hn : small l) : Fn cx 15 [.sl 9 (l.map Entity.enc)] (.bool (sortedL l)) := by
  have hn' : l.length ≤ 1000000 := hn
  have hz : l.length = 0 → Is cx (.loop 15 [0, 1, 0, 1] 0 [.t (.sl 9 (l.map Entity.enc)), vb false, vi l.length, vi 0] []) ⟨.exit 0, [.t (.sl 9 (l.map Entity.enc)), vb false, vi l.length, vi l.length], []⟩ := by
    intro h0
    rw [h0]
    refine Wp.ev ?_
    refine gs (l := [.b (decide (0 < 0)) false]) (by kernel_rfl) ⟨o_b (by kernel_rfl), trivial⟩ ?_
    refine rt (a := Res.mk (Ex.exit 0) [V.t (T.sl 9 (List.map Entity.enc l)), vb false, vi 0, vi 0] []) (by kernel_rfl) ?_
    rfl
  by_cases h0 : l.length = 0
  · have h := hz h0
    have : l = [] := List.length_eq_zero_iff.1 h0
    subst this
    refine Wp.ev ?_
    refine gs (l := [.l 0, .a (Task.loop 15 [0, 1, 0, 1] 0 [V.t (T.sl 9 []), vb false, vi 0, vi 0] []) (Res.mk (Ex.exit 0) [V.t (T.sl 9 []), vb false, vi 0, vi 0] [])]) (by kernel_rfl) ⟨o_a (hz (by kernel_rfl)), trivial⟩ ?_
    refine rt (a := Res.mk Ex.ret [vb true] []) (by kernel_rfl) ?_
    rfl
  · clear hz
    obtain ⟨k, h⟩ := f_entity_Sorted_loop l hn (l.length - 1) 1 (by omega) (by omega)
    simp only [Nat.sub_self, List.drop_zero] at h
    have hz : Is cx (.loop 15 [0, 1, 0, 1] 0 [.t (.sl 9 (l.map Entity.enc)), vb false, vi l.length, vi 0] []) (match sortedL l with
       | true => ⟨.exit 0, [.t (.sl 9 (l.map Entity.enc)), vb false, vi l.length, vi l.length], []⟩
       | false => ⟨.ret, [.t (.sl 9 (l.map Entity.enc)), vb false, vi l.length, vi k], []⟩) := by
      cases hq : sortedL l with
      | true => rw [hq] at h
                refine Wp.ev ?_
                refine gs (l := [.b (decide (0 < (↑(List.length l) : Int))) true, .b (decide (0 > 0)) false, .ff, .ff, .ff, .ff, .ff, .ff, .ff, .ff, .ff, .ff, .ff, .ff, .ff, .i IntKind.i64 1 1]) (by kernel_rfl) ⟨t_brp (by omega), o_b (by kernel_rfl), o_i (by kernel_rfl), trivial⟩ ?_
                refine gs (l := [.a (Task.loop 15 [0, 1, 0, 1] 0 [V.t (T.sl 9 (List.map Entity.enc l)), vb false, vi (↑(List.length l) : Int), vi 1] []) (Res.mk (Ex.exit 0) [V.t (T.sl 9 (List.map Entity.enc l)), vb false, vi (↑(List.length l) : Int), vi (↑(List.length l) : Int)] [])]) (by kernel_rfl) ⟨o_a h, trivial⟩ ?_
                refine rt (a := Res.mk (Ex.exit 0) [V.t (T.sl 9 (List.map Entity.enc l)), vb false, vi (↑(List.length l) : Int), vi (↑(List.length l) : Int)] []) (by kernel_rfl) ?_
                rfl
      | false => rw [hq] at h
                 refine Wp.ev ?_
                 refine gs (l := [.b (decide (0 < (↑(List.length l) : Int))) true, .b (decide (0 > 0)) false, .ff, .ff, .ff, .ff, .ff, .ff, .ff, .ff, .ff, .ff, .ff, .ff, .ff, .i IntKind.i64 1 1]) (by kernel_rfl) ⟨t_brp (by omega), o_b (by kernel_rfl), o_i (by kernel_rfl), trivial⟩ ?_
                 refine gs (l := [.a (Task.loop 15 [0, 1, 0, 1] 0 [V.t (T.sl 9 (List.map Entity.enc l)), vb false, vi (↑(List.length l) : Int), vi 1] []) (Res.mk Ex.ret [V.t (T.sl 9 (List.map Entity.enc l)), vb false, vi (↑(List.length l) : Int), vi (↑k : Int)] [])]) (by kernel_rfl) ⟨o_a h, trivial⟩ ?_
                 refine rt (a := Res.mk Ex.ret [V.t (T.sl 9 (List.map Entity.enc l)), vb false, vi (↑(List.length l) : Int), vi (↑k : Int)] []) (by kernel_rfl) ?_
                 rfl
    clear h
    cases hq : sortedL l with
    | true => rw [hq] at hz
              refine Wp.ev ?_
              refine gs (l := [.n (List.length (List.map Entity.enc l)) (List.length l), .a (Task.loop 15 [0, 1, 0, 1] 0 [V.t (T.sl 9 (List.map Entity.enc l)), vb false, vi (↑(List.length l) : Int), vi 0] []) (Res.mk (Ex.exit 0) [V.t (T.sl 9 (List.map Entity.enc l)), vb false, vi (↑(List.length l) : Int), vi (↑(List.length l) : Int)] [])]) (by kernel_rfl) ⟨o_n (by simp), o_a hz, trivial⟩ ?_
              refine rt (a := Res.mk Ex.ret [vb true] []) (by kernel_rfl) ?_
              rfl
    | false => rw [hq] at hz
               refine Wp.ev ?_
               refine gs (l := [.n (List.length (List.map Entity.enc l)) (List.length l), .a (Task.loop 15 [0, 1, 0, 1] 0 [V.t (T.sl 9 (List.map Entity.enc l)), vb false, vi (↑(List.length l) : Int), vi 0] []) (Res.mk Ex.ret [V.t (T.sl 9 (List.map Entity.enc l)), vb false, vi (↑(List.length l) : Int), vi (↑k : Int)] [])]) (by kernel_rfl) ⟨o_n (by simp), o_a hz, trivial⟩ ?_
               refine rt (a := Res.mk Ex.ret [vb false] []) (by kernel_rfl) ?_
               rfl
theorem f_joustref05_Sorted_loop (l : List Entity) (hn : small l) : ∀ (d i : Nat), i + d = l.length → 1 ≤ i →
    ∃ k : Nat, Is cx (.loop 29 [0, 1, 0, 1] 0 [.t (.sl 9 (l.map Entity.enc)), vb false, vi i] []) (match sortedL (l.drop (i - 1)) with
       | true => ⟨.exit 0, [.t (.sl 9 (l.map Entity.enc)), vb false, vi l.length], []⟩
       | false => ⟨.ret, [.t (.sl 9 (l.map Entity.enc)), vb false, vi k], []⟩) := by
  unfold small at hn
  intro d
  induction d with
  | zero =>
    intro i hi h1
    refine ⟨0, ?_⟩
    rw [sorted_end (by omega)]
    refine Wp.ev ?_
    refine gs (l := [.n (List.length (List.map Entity.enc l)) (List.length l), .b (decide ((↑i : Int) < (↑(List.length l) : Int))) false]) (by kernel_rfl) ⟨o_n (by simp), f_brp (by omega), trivial⟩ ?_
    refine rt (a := Res.mk (Ex.exit 0) [V.t (T.sl 9 (List.map Entity.enc l)), vb false, vi (↑i : Int)] []) (by kernel_rfl) ?_
    ((have hq : i = l.length := by omega); subst hq; rfl)
  | succ d ih =>
    intro i hi h1
    have hlt : i < l.length := by omega
    obtain ⟨k, ih1⟩ := ih (i + 1) (by omega) (by omega)
    clear ih
    obtain ⟨j, rfl⟩ : ∃ j, i = j + 1 := ⟨i - 1, by omega⟩
    simp only [Nat.add_sub_cancel] at *
    rw [sorted_gt hlt]
    by_cases hp : (gt l j).id < (gt l (j + 1)).id
    · simp only [hp, decide_true, Bool.true_and]
      refine ⟨k, ?_⟩
      cases hq : sortedL (l.drop (j + 1)) with
      | true => rw [hq] at ih1
                refine Wp.ev ?_
                refine gs (l := [.n (List.length (List.map Entity.enc l)) (List.length l), .b (decide ((↑(j + 1) : Int) < (↑(List.length l) : Int))) true, .w ((0 : Int) ≤ (↑(j + (1 : Nat)) : Int)), .n (Int.toNat (↑(j + 1) : Int)) (j + 1), .g (List.map Entity.enc l) (j + 1) (Entity.enc (gt l (j + 1))), .i IntKind.i64 ((↑(j + 1) : Int) - 1) ((↑(j + 1) : Int) - 1), .w ((0 : Int) ≤ (↑(j + (1 : Nat)) : Int) - (1 : Int)), .n (Int.toNat ((↑(j + 1) : Int) - 1)) j, .g (List.map Entity.enc l) j (Entity.enc (gt l j)), .b (decide ((gt l (j + 1)).id ≤ (gt l j).id)) false, .i IntKind.i64 ((↑(j + 1) : Int) + 1) ((↑(j + 1 + 1) : Int)), .a (Task.loop 29 [0, 1, 0, 1] 0 [V.t (T.sl 9 (List.map Entity.enc l)), vb false, vi (↑(j + 1 + 1) : Int)] []) (Res.mk (Ex.exit 0) [V.t (T.sl 9 (List.map Entity.enc l)), vb false, vi (↑(List.length l) : Int)] [])]) (by kernel_rfl) ⟨o_n (by simp), t_brp (by omega), o_w (by omega), o_n (by kernel_rfl), o_gt rfl (by assumption) (by intro h; cases h), o_i (w64 (by omega)), o_w (by omega), o_n (by omega), o_gt rfl (by omega) (by intro h; cases h), f_brp (by omega), o_i (w64 (by omega)), o_a ih1, trivial⟩ ?_
                refine rt (a := Res.mk (Ex.exit 0) [V.t (T.sl 9 (List.map Entity.enc l)), vb false, vi (↑(List.length l) : Int)] []) (by kernel_rfl) ?_
                rfl
      | false => rw [hq] at ih1
                 refine Wp.ev ?_
                 refine gs (l := [.n (List.length (List.map Entity.enc l)) (List.length l), .b (decide ((↑(j + 1) : Int) < (↑(List.length l) : Int))) true, .w ((0 : Int) ≤ (↑(j + (1 : Nat)) : Int)), .n (Int.toNat (↑(j + 1) : Int)) (j + 1), .g (List.map Entity.enc l) (j + 1) (Entity.enc (gt l (j + 1))), .i IntKind.i64 ((↑(j + 1) : Int) - 1) ((↑(j + 1) : Int) - 1), .w ((0 : Int) ≤ (↑(j + (1 : Nat)) : Int) - (1 : Int)), .n (Int.toNat ((↑(j + 1) : Int) - 1)) j, .g (List.map Entity.enc l) j (Entity.enc (gt l j)), .b (decide ((gt l (j + 1)).id ≤ (gt l j).id)) false, .i IntKind.i64 ((↑(j + 1) : Int) + 1) ((↑(j + 1 + 1) : Int)), .a (Task.loop 29 [0, 1, 0, 1] 0 [V.t (T.sl 9 (List.map Entity.enc l)), vb false, vi (↑(j + 1 + 1) : Int)] []) (Res.mk Ex.ret [V.t (T.sl 9 (List.map Entity.enc l)), vb false, vi (↑k : Int)] [])]) (by kernel_rfl) ⟨o_n (by simp), t_brp (by omega), o_w (by omega), o_n (by kernel_rfl), o_gt rfl (by assumption) (by intro h; cases h), o_i (w64 (by omega)), o_w (by omega), o_n (by omega), o_gt rfl (by omega) (by intro h; cases h), f_brp (by omega), o_i (w64 (by omega)), o_a ih1, trivial⟩ ?_
                 refine rt (a := Res.mk Ex.ret [V.t (T.sl 9 (List.map Entity.enc l)), vb false, vi (↑k : Int)] []) (by kernel_rfl) ?_
                 rfl
    · simp only [hp, decide_false, Bool.false_and]
      refine ⟨j + 1, ?_⟩
      refine Wp.ev ?_
      refine gs (l := [.n (List.length (List.map Entity.enc l)) (List.length l), .b (decide ((↑(j + 1) : Int) < (↑(List.length l) : Int))) true, .w ((0 : Int) ≤ (↑(j + (1 : Nat)) : Int)), .n (Int.toNat (↑(j + 1) : Int)) (j + 1), .g (List.map Entity.enc l) (j + 1) (Entity.enc (gt l (j + 1))), .i IntKind.i64 ((↑(j + 1) : Int) - 1) ((↑(j + 1) : Int) - 1), .w ((0 : Int) ≤ (↑(j + (1 : Nat)) : Int) - (1 : Int)), .n (Int.toNat ((↑(j + 1) : Int) - 1)) j, .g (List.map Entity.enc l) j (Entity.enc (gt l j)), .b (decide ((gt l (j + 1)).id ≤ (gt l j).id)) true]) (by kernel_rfl) ⟨o_n (by simp), t_brp (by omega), o_w (by omega), o_n (by kernel_rfl), o_gt rfl (by assumption) (by intro h; cases h), o_i (w64 (by omega)), o_w (by omega), o_n (by omega), o_gt rfl (by omega) (by intro h; cases h), t_brp (by omega), trivial⟩ ?_
      refine rt (a := Res.mk Ex.ret [V.t (T.sl 9 (List.map Entity.enc l)), vb false, vi (↑(j + 1) : Int)] []) (by kernel_rfl) ?_
      rfl
theorem f_joustref05_Sorted (l : List Entity) (hn : small l) : Fn cx 29 [.sl 9 (l.map Entity.enc)] (.bool (sortedL l)) := by
  have hn' : l.length ≤ 1000000 := hn
  by_cases h0 : l.length = 0
  · have : l = [] := List.length_eq_zero_iff.1 h0
    subst this
    have h : Is cx (.loop 29 [0, 1, 0, 1] 0 [.t (.sl 9 []), vb false, vi 1] []) ⟨.exit 0, [.t (.sl 9 []), vb false, vi 1], []⟩ := by
      refine Wp.ev ?_
      refine gs (l := [.l 0, .b (decide (1 < 0)) false]) (by kernel_rfl) ⟨o_b (by kernel_rfl), trivial⟩ ?_
      refine rt (a := Res.mk (Ex.exit 0) [V.t (T.sl 9 []), vb false, vi 1] []) (by kernel_rfl) ?_
      rfl
    refine Wp.ev ?_
    refine gs (l := [.a (Task.loop 29 [0, 1, 0, 1] 0 [V.t (T.sl 9 []), vb false, vi 1] []) (Res.mk (Ex.exit 0) [V.t (T.sl 9 []), vb false, vi 1] [])]) (by kernel_rfl) ⟨o_a h, trivial⟩ ?_
    refine rt (a := Res.mk Ex.ret [vb true] []) (by kernel_rfl) ?_
    rfl
  · obtain ⟨k, h⟩ := f_joustref05_Sorted_loop l hn (l.length - 1) 1 (by omega) (by omega)
    simp only [Nat.sub_self, List.drop_zero] at h
    cases hq : sortedL l with
    | true => rw [hq] at h
              refine Wp.ev ?_
              refine gs (l := [.a (Task.loop 29 [0, 1, 0, 1] 0 [V.t (T.sl 9 (List.map Entity.enc l)), vb false, vi 1] []) (Res.mk (Ex.exit 0) [V.t (T.sl 9 (List.map Entity.enc l)), vb false, vi (↑(List.length l) : Int)] [])]) (by kernel_rfl) ⟨o_a h, trivial⟩ ?_
              refine rt (a := Res.mk Ex.ret [vb true] []) (by kernel_rfl) ?_
              rfl
    | false => rw [hq] at h
               refine Wp.ev ?_
               refine gs (l := [.a (Task.loop 29 [0, 1, 0, 1] 0 [V.t (T.sl 9 (List.map Entity.enc l)), vb false, vi 1] []) (Res.mk Ex.ret [V.t (T.sl 9 (List.map Entity.enc l)), vb false, vi (↑k : Int)] [])]) (by kernel_rfl) ⟨o_a h, trivial⟩ ?_
               refine rt (a := Res.mk Ex.ret [vb false] []) (by kernel_rfl) ?_
               rfl
theorem f_slices_Index_loop_int (l : List Int) (x : Int) (hn : small l) : ∀ (d i : Nat), i + d = l.length →
    Is cx (.loop 80 [0, 1, 0, 1] 0 [.t (.sl 1 (l.map ti)), vi x, vi 0, vi l.length, vi i] [])
      (match (l.drop i).findIdx? fun y => x == y with
        | some j => ⟨.ret, [.t (.sl 1 (l.map ti)), vi x, vi (i + j : Nat), vi l.length, vi (i + j : Nat)], []⟩
        | none => ⟨.exit 0, [.t (.sl 1 (l.map ti)), vi x, vi 0, vi l.length, vi l.length], []⟩) := by
  unfold small at hn
  intro d
  induction d with
  | zero =>
    intro i hi
    refine Wp.ev ?_
    refine gs (l := [.b (decide ((↑i : Int) < (↑(List.length l) : Int))) false]) (by kernel_rfl) ⟨f_brp (by omega), trivial⟩ ?_
    refine rt (a := Res.mk (Ex.exit 0) [V.t (T.sl 1 (List.map ti l)), vi x, vi 0, vi (↑(List.length l) : Int), vi (↑i : Int)] []) (by kernel_rfl) ?_
    ((have : i = l.length := by omega); subst this; rw [drop_end (Nat.le_refl _)]; rfl)
  | succ d ih =>
    intro i hi
    have hlt : i < l.length := by omega
    have ih1 := ih (i + 1) (by omega)
    clear ih
    rw [drop_gt hlt, List.findIdx?_cons]
    by_cases hp : x = gt l i
    · simp only [show (x == gt l i) = true by simpa using hp, if_true]
      refine Wp.ev ?_
      refine gs (l := [.b (decide ((↑i : Int) < (↑(List.length l) : Int))) true, .w ((0 : Int) ≤ (↑i : Int)), .n (Int.toNat (↑i : Int)) i, .g (List.map ti l) i (ti (gt l i)), .b (x == gt l i) true]) (by kernel_rfl) ⟨t_brp (by omega), o_w (by omega), o_n (by kernel_rfl), o_gt rfl (by assumption) (by intro h; cases h), t_bre (by assumption), trivial⟩ ?_
      refine rt (a := Res.mk Ex.ret [V.t (T.sl 1 (List.map ti l)), vi x, vi (↑i : Int), vi (↑(List.length l) : Int), vi (↑i : Int)] []) (by kernel_rfl) ?_
      rfl
    · simp only [show (x == gt l i) = false by simpa using hp, Bool.false_eq_true, if_false]
      cases hq : (l.drop (i+1)).findIdx? fun y => x == y with
      | none =>
        rw [hq] at ih1
        refine Wp.ev ?_
        refine gs (l := [.b (decide ((↑i : Int) < (↑(List.length l) : Int))) true, .w ((0 : Int) ≤ (↑i : Int)), .n (Int.toNat (↑i : Int)) i, .g (List.map ti l) i (ti (gt l i)), .b (x == gt l i) false, .i IntKind.i64 ((↑i : Int) + 1) ((↑(i + 1) : Int)), .a (Task.loop 80 [0, 1, 0, 1] 0 [V.t (T.sl 1 (List.map ti l)), vi x, vi 0, vi (↑(List.length l) : Int), vi (↑(i + 1) : Int)] []) (Res.mk (Ex.exit 0) [V.t (T.sl 1 (List.map ti l)), vi x, vi 0, vi (↑(List.length l) : Int), vi (↑(List.length l) : Int)] [])]) (by kernel_rfl) ⟨t_brp (by omega), o_w (by omega), o_n (by kernel_rfl), o_gt rfl (by assumption) (by intro h; cases h), f_bre (by assumption), o_i (w64 (by omega)), o_a ih1, trivial⟩ ?_
        refine rt (a := Res.mk (Ex.exit 0) [V.t (T.sl 1 (List.map ti l)), vi x, vi 0, vi (↑(List.length l) : Int), vi (↑(List.length l) : Int)] []) (by kernel_rfl) ?_
        rfl
      | some j =>
        rw [hq] at ih1
        refine Wp.ev ?_
        refine gs (l := [.b (decide ((↑i : Int) < (↑(List.length l) : Int))) true, .w ((0 : Int) ≤ (↑i : Int)), .n (Int.toNat (↑i : Int)) i, .g (List.map ti l) i (ti (gt l i)), .b (x == gt l i) false, .i IntKind.i64 ((↑i : Int) + 1) ((↑(i + 1) : Int)), .a (Task.loop 80 [0, 1, 0, 1] 0 [V.t (T.sl 1 (List.map ti l)), vi x, vi 0, vi (↑(List.length l) : Int), vi (↑(i + 1) : Int)] []) (Res.mk Ex.ret [V.t (T.sl 1 (List.map ti l)), vi x, vi (↑(i + 1 + j) : Int), vi (↑(List.length l) : Int), vi (↑(i + 1 + j) : Int)] [])]) (by kernel_rfl) ⟨t_brp (by omega), o_w (by omega), o_n (by kernel_rfl), o_gt rfl (by assumption) (by intro h; cases h), f_bre (by assumption), o_i (w64 (by omega)), o_a ih1, trivial⟩ ?_
        refine rt (a := Res.mk Ex.ret [V.t (T.sl 1 (List.map ti l)), vi x, vi (↑(i + 1 + j) : Int), vi (↑(List.length l) : Int), vi (↑(i + 1 + j) : Int)] []) (by kernel_rfl) ?_
        simp [Nat.add_assoc, Nat.add_comm 1 j]
theorem f_slices_Index_int (l : List Int) (x : Int) (hn : small l) : Fn cx 80 [.sl 1 (l.map ti), ti x] (ti (pos (fun y => x == y) l)) := by
  have h := f_slices_Index_loop_int l x hn l.length 0 (by omega)
  rw [List.drop_zero] at h
  unfold pos
  cases hq : l.findIdx? fun y => x == y with
  | none =>
    rw [hq] at h
    refine Wp.ev ?_
    refine gs (l := [.n (List.length (List.map ti l)) (List.length l), .a (Task.loop 80 [0, 1, 0, 1] 0 [V.t (T.sl 1 (List.map ti l)), vi x, vi 0, vi (↑(List.length l) : Int), vi 0] []) (Res.mk (Ex.exit 0) [V.t (T.sl 1 (List.map ti l)), vi x, vi 0, vi (↑(List.length l) : Int), vi (↑(List.length l) : Int)] [])]) (by kernel_rfl) ⟨o_n (by simp), o_a h, trivial⟩ ?_
    refine rt (a := Res.mk Ex.ret [vi (-1)] []) (by kernel_rfl) ?_
    rfl
  | some j =>
    rw [hq] at h
    refine Wp.ev ?_
    refine gs (l := [.n (List.length (List.map ti l)) (List.length l), .a (Task.loop 80 [0, 1, 0, 1] 0 [V.t (T.sl 1 (List.map ti l)), vi x, vi 0, vi (↑(List.length l) : Int), vi 0] []) (Res.mk Ex.ret [V.t (T.sl 1 (List.map ti l)), vi x, vi (↑(0 + j) : Int), vi (↑(List.length l) : Int), vi (↑(0 + j) : Int)] [])]) (by kernel_rfl) ⟨o_n (by simp), o_a h, trivial⟩ ?_
    refine rt (a := Res.mk Ex.ret [vi (↑(0 + j) : Int)] []) (by kernel_rfl) ?_
    simp
theorem f_slices_Contains_int (l : List Int) (x : Int) (hn : small l) : Fn cx 54 [.sl 1 (l.map ti), ti x] (.bool (has l x)) := by
  have h := f_slices_Index_int l x hn
  rw [← has_pos]
  generalize pos (fun y => x == y) l = k at *
  refine Wp.ev ?_
  refine gs (l := [.a (Task.call 80 [V.t (T.sl 1 (List.map ti l)), vi x] []) (Res.mk Ex.ret [vi k] [])]) (by kernel_rfl) ⟨o_a h, trivial⟩ ?_
  refine rt (a := Res.mk Ex.ret [vb (decide (k ≥ 0))] []) (by kernel_rfl) ?_
  rfl
theorem f_entity_Drop_1 (e : Entity) (l : List Int) (hn : small l) : Fn cx 53 [e.enc, .ip 1 (.sl 1 (l.map ti)) 0] (.bool (has l e.id)) := by
  refine Wp.ev ?_
  refine gs (l := [.a (Task.call 54 [V.t (T.sl 1 (List.map ti l)), vi e.id] []) (Res.mk Ex.ret [vb (has l e.id)] [])]) (by kernel_rfl) ⟨o_a (f_slices_Contains_int _ _ (by assumption)), trivial⟩ ?_
  refine rt (a := Res.mk Ex.ret [vb (has l e.id)] []) (by kernel_rfl) ?_
  rfl
theorem f_entity_Drop (l : List Entity) (ids : List Int) (hl : small l) (hi : small ids) : Is cx (.call 17 [.t (.sl 9 (l.map Entity.enc)), .t (.sl 1 (ids.map ti))] []) ⟨.ret, [.all 0 none], [.arr 9 ((drops l ids).map Entity.enc) none false]⟩ := by
  have h := f_slices_DeleteFunc_Entity l 53 [.ip 1 (.sl 1 (ids.map ti)) 0] (fun e => has ids e.id) (by kernel_rfl) hl (fun e _ => f_entity_Drop_1 e ids hi)
  refine Wp.ev ?_
  refine gs (l := [.a (Task.call 47 [V.t (T.sl 9 (List.map Entity.enc l))] []) (Res.mk Ex.ret [V.all 0 none] [Ob.arr 9 (List.map Entity.enc l) none false]), .s (T.clo 53 [T.ip 1 (T.sl 1 (List.map ti ids)) 0]), .a (Task.call 52 [V.all 0 none, V.t (T.clo 53 [T.ip 1 (T.sl 1 (List.map ti ids)) 0])] [Ob.arr 9 (List.map Entity.enc l) none false]) (Res.mk Ex.ret [V.all 1 none] [Ob.dead, Ob.arr 9 (List.map Entity.enc (List.filter (fun (e : Entity) ↦ !has ids e.id) l)) none false])]) (by kernel_rfl) ⟨o_a (f_slices_Clone_Entity _ (by assumption)), o_a h, trivial⟩ ?_
  refine rt (a := Res.mk Ex.ret [V.all 0 none] [Ob.arr 9 (List.map Entity.enc (List.filter (fun (e : Entity) ↦ !has ids e.id) l)) none false]) (by kernel_rfl) ?_
  rfl
theorem f_entity_Things_loop (l : List Entity) (hn : small l) : ∀ (d i n : Nat), i + d = l.length → n ≤ i →
    Is cx (.loop 19 [0, 1, 0, 1, 1] 0 [vi n, .t (.sl 9 (l.map Entity.enc)), vi l.length, vi i] []) ⟨.exit 0, [vi (n + (l.drop i).countP fun e => e.kind != 1 : Nat), .t (.sl 9 (l.map Entity.enc)), vi l.length, vi l.length], []⟩ := by
  unfold small at hn
  intro d
  induction d with
  | zero =>
    intro i n hi hm
    rw [drop_end (by omega)]
    refine Wp.ev ?_
    refine gs (l := [.b (decide ((↑i : Int) < (↑(List.length l) : Int))) false]) (by kernel_rfl) ⟨f_brp (by omega), trivial⟩ ?_
    refine rt (a := Res.mk (Ex.exit 0) [vi (↑n : Int), V.t (T.sl 9 (List.map Entity.enc l)), vi (↑(List.length l) : Int), vi (↑i : Int)] []) (by kernel_rfl) ?_
    ((have hq : i = l.length := by omega); subst hq; rfl)
  | succ d ih =>
    intro i n hi hm
    have hlt : i < l.length := by omega
    have ih1 := ih (i + 1) n (by omega) (by omega)
    have ih2 := ih (i + 1) (n + 1) (by omega) (by omega)
    clear ih
    rw [countP_gt _ hlt]
    refine Wp.ev ?_
    refine gs (l := [.b (decide ((↑i : Int) < (↑(List.length l) : Int))) true, .w ((0 : Int) ≤ (↑i : Int)), .n (Int.toNat (↑i : Int)) i, .g (List.map Entity.enc l) i (Entity.enc (gt l i))]) (by kernel_rfl) ⟨t_brp (by omega), o_w (by omega), o_n (by kernel_rfl), o_gt rfl (by assumption) (by intro h; cases h), trivial⟩ ?_
    refine brn (x := (gt l i).kind) (y := 1) (by kernel_rfl) (fun h1 => ?_) (fun h1 => ?_)
    · refine gs (l := [.i IntKind.i64 ((↑n : Int) + 1) ((↑(n + 1) : Int)), .i IntKind.i64 ((↑i : Int) + 1) ((↑(i + 1) : Int)), .a (Task.loop 19 [0, 1, 0, 1, 1] 0 [vi (↑(n + 1) : Int), V.t (T.sl 9 (List.map Entity.enc l)), vi (↑(List.length l) : Int), vi (↑(i + 1) : Int)] []) (Res.mk (Ex.exit 0) [vi (↑(n + 1 + List.countP (fun (e : Entity) ↦ e.kind != 1) (List.drop (i + 1) l)) : Int), V.t (T.sl 9 (List.map Entity.enc l)), vi (↑(List.length l) : Int), vi (↑(List.length l) : Int)] [])]) (by kernel_rfl) ⟨o_i (w64 (by omega)), o_i (w64 (by omega)), o_a ih2, trivial⟩ ?_
      refine rt (a := Res.mk (Ex.exit 0) [vi (↑(n + 1 + List.countP (fun (e : Entity) ↦ e.kind != 1) (List.drop (i + 1) l)) : Int), V.t (T.sl 9 (List.map Entity.enc l)), vi (↑(List.length l) : Int), vi (↑(List.length l) : Int)] []) (by kernel_rfl) ?_
      (simp_all; try omega)
    · refine gs (l := [.i IntKind.i64 ((↑i : Int) + 1) ((↑(i + 1) : Int)), .a (Task.loop 19 [0, 1, 0, 1, 1] 0 [vi (↑n : Int), V.t (T.sl 9 (List.map Entity.enc l)), vi (↑(List.length l) : Int), vi (↑(i + 1) : Int)] []) (Res.mk (Ex.exit 0) [vi (↑(n + List.countP (fun (e : Entity) ↦ e.kind != 1) (List.drop (i + 1) l)) : Int), V.t (T.sl 9 (List.map Entity.enc l)), vi (↑(List.length l) : Int), vi (↑(List.length l) : Int)] [])]) (by kernel_rfl) ⟨o_i (w64 (by omega)), o_a ih1, trivial⟩ ?_
      refine rt (a := Res.mk (Ex.exit 0) [vi (↑(n + List.countP (fun (e : Entity) ↦ e.kind != 1) (List.drop (i + 1) l)) : Int), V.t (T.sl 9 (List.map Entity.enc l)), vi (↑(List.length l) : Int), vi (↑(List.length l) : Int)] []) (by kernel_rfl) ?_
      (simp_all; try omega)
theorem f_entity_Things (l : List Entity) (hn : small l) : Fn cx 19 [.sl 9 (l.map Entity.enc)] (ti (things l)) := by
  have h := f_entity_Things_loop l hn l.length 0 0 (by omega) (by omega)
  rw [List.drop_zero, Nat.zero_add] at h
  refine Wp.ev ?_
  refine gs (l := [.n (List.length (List.map Entity.enc l)) (List.length l), .a (Task.loop 19 [0, 1, 0, 1, 1] 0 [vi 0, V.t (T.sl 9 (List.map Entity.enc l)), vi (↑(List.length l) : Int), vi 0] []) (Res.mk (Ex.exit 0) [vi (↑(List.countP (fun (e : Entity) ↦ e.kind != 1) l) : Int), V.t (T.sl 9 (List.map Entity.enc l)), vi (↑(List.length l) : Int), vi (↑(List.length l) : Int)] [])]) (by kernel_rfl) ⟨o_n (by simp), o_a h, trivial⟩ ?_
  refine rt (a := Res.mk Ex.ret [vi (↑(List.countP (fun (e : Entity) ↦ e.kind != 1) l) : Int)] []) (by kernel_rfl) ?_
  rfl
theorem f_joustref05_Things_loop (l : List Entity) (hn : small l) : ∀ (d i n : Nat), i + d = l.length → n ≤ i →
    Is cx (.loop 28 [0, 1, 0, 1, 1] 0 [.t (.sl 9 (l.map Entity.enc)), vi n, vi i] []) ⟨.exit 0, [.t (.sl 9 (l.map Entity.enc)), vi (n + (l.drop i).countP fun e => e.kind != 1 : Nat), vi l.length], []⟩ := by
  unfold small at hn
  intro d
  induction d with
  | zero =>
    intro i n hi hm
    rw [drop_end (by omega)]
    refine Wp.ev ?_
    refine gs (l := [.n (List.length (List.map Entity.enc l)) (List.length l), .b (decide ((↑i : Int) < (↑(List.length l) : Int))) false]) (by kernel_rfl) ⟨o_n (by simp), f_brp (by omega), trivial⟩ ?_
    refine rt (a := Res.mk (Ex.exit 0) [V.t (T.sl 9 (List.map Entity.enc l)), vi (↑n : Int), vi (↑i : Int)] []) (by kernel_rfl) ?_
    ((have hq : i = l.length := by omega); subst hq; rfl)
  | succ d ih =>
    intro i n hi hm
    have hlt : i < l.length := by omega
    have ih1 := ih (i + 1) n (by omega) (by omega)
    have ih2 := ih (i + 1) (n + 1) (by omega) (by omega)
    clear ih
    rw [countP_gt _ hlt]
    refine Wp.ev ?_
    refine gs (l := [.n (List.length (List.map Entity.enc l)) (List.length l), .b (decide ((↑i : Int) < (↑(List.length l) : Int))) true, .w ((0 : Int) ≤ (↑i : Int)), .n (Int.toNat (↑i : Int)) i, .g (List.map Entity.enc l) i (Entity.enc (gt l i))]) (by kernel_rfl) ⟨o_n (by simp), t_brp (by omega), o_w (by omega), o_n (by kernel_rfl), o_gt rfl (by assumption) (by intro h; cases h), trivial⟩ ?_
    refine brn (x := (gt l i).kind) (y := 1) (by kernel_rfl) (fun h1 => ?_) (fun h1 => ?_)
    · refine gs (l := [.i IntKind.i64 ((↑n : Int) + 1) ((↑(n + 1) : Int)), .i IntKind.i64 ((↑i : Int) + 1) ((↑(i + 1) : Int)), .a (Task.loop 28 [0, 1, 0, 1, 1] 0 [V.t (T.sl 9 (List.map Entity.enc l)), vi (↑(n + 1) : Int), vi (↑(i + 1) : Int)] []) (Res.mk (Ex.exit 0) [V.t (T.sl 9 (List.map Entity.enc l)), vi (↑(n + 1 + List.countP (fun (e : Entity) ↦ e.kind != 1) (List.drop (i + 1) l)) : Int), vi (↑(List.length l) : Int)] [])]) (by kernel_rfl) ⟨o_i (w64 (by omega)), o_i (w64 (by omega)), o_a ih2, trivial⟩ ?_
      refine rt (a := Res.mk (Ex.exit 0) [V.t (T.sl 9 (List.map Entity.enc l)), vi (↑(n + 1 + List.countP (fun (e : Entity) ↦ e.kind != 1) (List.drop (i + 1) l)) : Int), vi (↑(List.length l) : Int)] []) (by kernel_rfl) ?_
      (simp_all; try omega)
    · refine gs (l := [.i IntKind.i64 ((↑i : Int) + 1) ((↑(i + 1) : Int)), .a (Task.loop 28 [0, 1, 0, 1, 1] 0 [V.t (T.sl 9 (List.map Entity.enc l)), vi (↑n : Int), vi (↑(i + 1) : Int)] []) (Res.mk (Ex.exit 0) [V.t (T.sl 9 (List.map Entity.enc l)), vi (↑(n + List.countP (fun (e : Entity) ↦ e.kind != 1) (List.drop (i + 1) l)) : Int), vi (↑(List.length l) : Int)] [])]) (by kernel_rfl) ⟨o_i (w64 (by omega)), o_a ih1, trivial⟩ ?_
      refine rt (a := Res.mk (Ex.exit 0) [V.t (T.sl 9 (List.map Entity.enc l)), vi (↑(n + List.countP (fun (e : Entity) ↦ e.kind != 1) (List.drop (i + 1) l)) : Int), vi (↑(List.length l) : Int)] []) (by kernel_rfl) ?_
      (simp_all; try omega)
theorem f_joustref05_Things (l : List Entity) (hn : small l) : Fn cx 28 [.sl 9 (l.map Entity.enc)] (ti (things l)) := by
  have h := f_joustref05_Things_loop l hn l.length 0 0 (by omega) (by omega)
  rw [List.drop_zero, Nat.zero_add] at h
  refine Wp.ev ?_
  refine gs (l := [.a (Task.loop 28 [0, 1, 0, 1, 1] 0 [V.t (T.sl 9 (List.map Entity.enc l)), vi 0, vi 0] []) (Res.mk (Ex.exit 0) [V.t (T.sl 9 (List.map Entity.enc l)), vi (↑(List.countP (fun (e : Entity) ↦ e.kind != 1) l) : Int), vi (↑(List.length l) : Int)] [])]) (by kernel_rfl) ⟨o_a h, trivial⟩ ?_
  refine rt (a := Res.mk Ex.ret [vi (↑(List.countP (fun (e : Entity) ↦ e.kind != 1) l) : Int)] []) (by kernel_rfl) ?_
  rfl
theorem f_joustref05_Find_loop (l : List Entity) (id : Int) (hn : small l) : ∀ (d i : Nat), i + d = l.length →
    Is cx (.loop 26 [0, 1, 0, 1] 0 [.t (.sl 9 (l.map Entity.enc)), vi id, vi 0, vi i] [])
      (match (l.drop i).findIdx? fun e => e.id == id with
        | some j => ⟨.ret, [.t (.sl 9 (l.map Entity.enc)), vi id, vi (i + j : Nat), vi (i + j : Nat)], []⟩
        | none => ⟨.exit 0, [.t (.sl 9 (l.map Entity.enc)), vi id, vi 0, vi l.length], []⟩) := by
  unfold small at hn
  intro d
  induction d with
  | zero =>
    intro i hi
    refine Wp.ev ?_
    refine gs (l := [.n (List.length (List.map Entity.enc l)) (List.length l), .b (decide ((↑i : Int) < (↑(List.length l) : Int))) false]) (by kernel_rfl) ⟨o_n (by simp), f_brp (by omega), trivial⟩ ?_
    refine rt (a := Res.mk (Ex.exit 0) [V.t (T.sl 9 (List.map Entity.enc l)), vi id, vi 0, vi (↑i : Int)] []) (by kernel_rfl) ?_
    ((have : i = l.length := by omega); subst this; rw [drop_end (Nat.le_refl _)]; rfl)
  | succ d ih =>
    intro i hi
    have hlt : i < l.length := by omega
    have ih1 := ih (i + 1) (by omega)
    clear ih
    rw [drop_gt hlt, List.findIdx?_cons]
    by_cases hp : (gt l i).id = id
    · simp only [show ((gt l i).id == id) = true by simpa using hp, if_true]
      refine Wp.ev ?_
      refine gs (l := [.n (List.length (List.map Entity.enc l)) (List.length l), .b (decide ((↑i : Int) < (↑(List.length l) : Int))) true, .w ((0 : Int) ≤ (↑i : Int)), .n (Int.toNat (↑i : Int)) i, .g (List.map Entity.enc l) i (Entity.enc (gt l i)), .b ((gt l i).id == id) true]) (by kernel_rfl) ⟨o_n (by simp), t_brp (by omega), o_w (by omega), o_n (by kernel_rfl), o_gt rfl (by assumption) (by intro h; cases h), t_bre (by assumption), trivial⟩ ?_
      refine rt (a := Res.mk Ex.ret [V.t (T.sl 9 (List.map Entity.enc l)), vi id, vi (↑i : Int), vi (↑i : Int)] []) (by kernel_rfl) ?_
      rfl
    · simp only [show ((gt l i).id == id) = false by simpa using hp, Bool.false_eq_true, if_false]
      cases hq : (l.drop (i+1)).findIdx? fun e => e.id == id with
      | none =>
        rw [hq] at ih1
        refine Wp.ev ?_
        refine gs (l := [.n (List.length (List.map Entity.enc l)) (List.length l), .b (decide ((↑i : Int) < (↑(List.length l) : Int))) true, .w ((0 : Int) ≤ (↑i : Int)), .n (Int.toNat (↑i : Int)) i, .g (List.map Entity.enc l) i (Entity.enc (gt l i)), .b ((gt l i).id == id) false, .i IntKind.i64 ((↑i : Int) + 1) ((↑(i + 1) : Int)), .a (Task.loop 26 [0, 1, 0, 1] 0 [V.t (T.sl 9 (List.map Entity.enc l)), vi id, vi 0, vi (↑(i + 1) : Int)] []) (Res.mk (Ex.exit 0) [V.t (T.sl 9 (List.map Entity.enc l)), vi id, vi 0, vi (↑(List.length l) : Int)] [])]) (by kernel_rfl) ⟨o_n (by simp), t_brp (by omega), o_w (by omega), o_n (by kernel_rfl), o_gt rfl (by assumption) (by intro h; cases h), f_bre (by assumption), o_i (w64 (by omega)), o_a ih1, trivial⟩ ?_
        refine rt (a := Res.mk (Ex.exit 0) [V.t (T.sl 9 (List.map Entity.enc l)), vi id, vi 0, vi (↑(List.length l) : Int)] []) (by kernel_rfl) ?_
        rfl
      | some j =>
        rw [hq] at ih1
        refine Wp.ev ?_
        refine gs (l := [.n (List.length (List.map Entity.enc l)) (List.length l), .b (decide ((↑i : Int) < (↑(List.length l) : Int))) true, .w ((0 : Int) ≤ (↑i : Int)), .n (Int.toNat (↑i : Int)) i, .g (List.map Entity.enc l) i (Entity.enc (gt l i)), .b ((gt l i).id == id) false, .i IntKind.i64 ((↑i : Int) + 1) ((↑(i + 1) : Int)), .a (Task.loop 26 [0, 1, 0, 1] 0 [V.t (T.sl 9 (List.map Entity.enc l)), vi id, vi 0, vi (↑(i + 1) : Int)] []) (Res.mk Ex.ret [V.t (T.sl 9 (List.map Entity.enc l)), vi id, vi (↑(i + 1 + j) : Int), vi (↑(i + 1 + j) : Int)] [])]) (by kernel_rfl) ⟨o_n (by simp), t_brp (by omega), o_w (by omega), o_n (by kernel_rfl), o_gt rfl (by assumption) (by intro h; cases h), f_bre (by assumption), o_i (w64 (by omega)), o_a ih1, trivial⟩ ?_
        refine rt (a := Res.mk Ex.ret [V.t (T.sl 9 (List.map Entity.enc l)), vi id, vi (↑(i + 1 + j) : Int), vi (↑(i + 1 + j) : Int)] []) (by kernel_rfl) ?_
        simp [Nat.add_assoc, Nat.add_comm 1 j]
theorem f_joustref05_Find (l : List Entity) (id : Int) (hn : small l) : Fn cx 26 [.sl 9 (l.map Entity.enc), ti id] (ti (find l id)) := by
  have h := f_joustref05_Find_loop l id hn l.length 0 (by omega)
  rw [List.drop_zero] at h
  unfold find pos
  cases hq : l.findIdx? fun e => e.id == id with
  | none =>
    rw [hq] at h
    refine Wp.ev ?_
    refine gs (l := [.a (Task.loop 26 [0, 1, 0, 1] 0 [V.t (T.sl 9 (List.map Entity.enc l)), vi id, vi 0, vi 0] []) (Res.mk (Ex.exit 0) [V.t (T.sl 9 (List.map Entity.enc l)), vi id, vi 0, vi (↑(List.length l) : Int)] [])]) (by kernel_rfl) ⟨o_a h, trivial⟩ ?_
    refine rt (a := Res.mk Ex.ret [vi (-1)] []) (by kernel_rfl) ?_
    rfl
  | some j =>
    rw [hq] at h
    refine Wp.ev ?_
    refine gs (l := [.a (Task.loop 26 [0, 1, 0, 1] 0 [V.t (T.sl 9 (List.map Entity.enc l)), vi id, vi 0, vi 0] []) (Res.mk Ex.ret [V.t (T.sl 9 (List.map Entity.enc l)), vi id, vi (↑(0 + j) : Int), vi (↑(0 + j) : Int)] [])]) (by kernel_rfl) ⟨o_a h, trivial⟩ ?_
    refine rt (a := Res.mk Ex.ret [vi (↑(0 + j) : Int)] []) (by kernel_rfl) ?_
    simp
theorem f_jousthelp_In_loop_int (l : List Int) (x : Int) (hn : small l) : ∀ (d i : Nat), i + d = l.length →
    ∃ k : Nat, Is cx (.loop 44 [0, 1, 0, 1] 0 [.t (.sl 1 (l.map ti)), vi x, vb false, vi i] [])
      (match has (l.drop i) x with
        | true => ⟨.ret, [.t (.sl 1 (l.map ti)), vi x, vb true, vi k], []⟩
        | false => ⟨.exit 0, [.t (.sl 1 (l.map ti)), vi x, vb false, vi l.length], []⟩) := by
  unfold small at hn
  intro d
  induction d with
  | zero =>
    intro i hi
    refine ⟨0, ?_⟩
    rw [drop_end (by omega)]
    refine Wp.ev ?_
    refine gs (l := [.n (List.length (List.map ti l)) (List.length l), .b (decide ((↑i : Int) < (↑(List.length l) : Int))) false]) (by kernel_rfl) ⟨o_n (by simp), f_brp (by omega), trivial⟩ ?_
    refine rt (a := Res.mk (Ex.exit 0) [V.t (T.sl 1 (List.map ti l)), vi x, vb false, vi (↑i : Int)] []) (by kernel_rfl) ?_
    ((have : i = l.length := by omega); subst this; rfl)
  | succ d ih =>
    intro i hi
    have hlt : i < l.length := by omega
    obtain ⟨k, ih1⟩ := ih (i + 1) (by omega)
    clear ih
    unfold has at *
    rw [any_gt _ hlt]
    by_cases hp : gt l i = x
    · simp only [show (gt l i == x) = true by simpa using hp, Bool.true_or]
      refine ⟨i, ?_⟩
      refine Wp.ev ?_
      refine gs (l := [.n (List.length (List.map ti l)) (List.length l), .b (decide ((↑i : Int) < (↑(List.length l) : Int))) true, .w ((0 : Int) ≤ (↑i : Int)), .n (Int.toNat (↑i : Int)) i, .g (List.map ti l) i (ti (gt l i)), .b (gt l i == x) true]) (by kernel_rfl) ⟨o_n (by simp), t_brp (by omega), o_w (by omega), o_n (by kernel_rfl), o_gt rfl (by assumption) (by intro h; cases h), t_bre (by assumption), trivial⟩ ?_
      refine rt (a := Res.mk Ex.ret [V.t (T.sl 1 (List.map ti l)), vi x, vb true, vi (↑i : Int)] []) (by kernel_rfl) ?_
      rfl
    · simp only [show (gt l i == x) = false by simpa using hp, Bool.false_or]
      refine ⟨k, ?_⟩
      cases hq : (l.drop (i+1)).any fun y => y == x with
      | true =>
        rw [hq] at ih1
        refine Wp.ev ?_
        refine gs (l := [.n (List.length (List.map ti l)) (List.length l), .b (decide ((↑i : Int) < (↑(List.length l) : Int))) true, .w ((0 : Int) ≤ (↑i : Int)), .n (Int.toNat (↑i : Int)) i, .g (List.map ti l) i (ti (gt l i)), .b (gt l i == x) false, .i IntKind.i64 ((↑i : Int) + 1) ((↑(i + 1) : Int)), .a (Task.loop 44 [0, 1, 0, 1] 0 [V.t (T.sl 1 (List.map ti l)), vi x, vb false, vi (↑(i + 1) : Int)] []) (Res.mk Ex.ret [V.t (T.sl 1 (List.map ti l)), vi x, vb true, vi (↑k : Int)] [])]) (by kernel_rfl) ⟨o_n (by simp), t_brp (by omega), o_w (by omega), o_n (by kernel_rfl), o_gt rfl (by assumption) (by intro h; cases h), f_bre (by assumption), o_i (w64 (by omega)), o_a ih1, trivial⟩ ?_
        refine rt (a := Res.mk Ex.ret [V.t (T.sl 1 (List.map ti l)), vi x, vb true, vi (↑k : Int)] []) (by kernel_rfl) ?_
        rfl
      | false =>
        rw [hq] at ih1
        refine Wp.ev ?_
        refine gs (l := [.n (List.length (List.map ti l)) (List.length l), .b (decide ((↑i : Int) < (↑(List.length l) : Int))) true, .w ((0 : Int) ≤ (↑i : Int)), .n (Int.toNat (↑i : Int)) i, .g (List.map ti l) i (ti (gt l i)), .b (gt l i == x) false, .i IntKind.i64 ((↑i : Int) + 1) ((↑(i + 1) : Int)), .a (Task.loop 44 [0, 1, 0, 1] 0 [V.t (T.sl 1 (List.map ti l)), vi x, vb false, vi (↑(i + 1) : Int)] []) (Res.mk (Ex.exit 0) [V.t (T.sl 1 (List.map ti l)), vi x, vb false, vi (↑(List.length l) : Int)] [])]) (by kernel_rfl) ⟨o_n (by simp), t_brp (by omega), o_w (by omega), o_n (by kernel_rfl), o_gt rfl (by assumption) (by intro h; cases h), f_bre (by assumption), o_i (w64 (by omega)), o_a ih1, trivial⟩ ?_
        refine rt (a := Res.mk (Ex.exit 0) [V.t (T.sl 1 (List.map ti l)), vi x, vb false, vi (↑(List.length l) : Int)] []) (by kernel_rfl) ?_
        rfl
theorem f_jousthelp_In_int (l : List Int) (x : Int) (hn : small l) : Fn cx 44 [.sl 1 (l.map ti), ti x] (.bool (has l x)) := by
  obtain ⟨k, h⟩ := f_jousthelp_In_loop_int l x hn l.length 0 (by omega)
  rw [List.drop_zero] at h
  cases hq : has l x with
  | true =>
    rw [hq] at h
    refine Wp.ev ?_
    refine gs (l := [.a (Task.loop 44 [0, 1, 0, 1] 0 [V.t (T.sl 1 (List.map ti l)), vi x, vb false, vi 0] []) (Res.mk Ex.ret [V.t (T.sl 1 (List.map ti l)), vi x, vb true, vi (↑k : Int)] [])]) (by kernel_rfl) ⟨o_a h, trivial⟩ ?_
    refine rt (a := Res.mk Ex.ret [vb true] []) (by kernel_rfl) ?_
    rfl
  | false =>
    rw [hq] at h
    refine Wp.ev ?_
    refine gs (l := [.a (Task.loop 44 [0, 1, 0, 1] 0 [V.t (T.sl 1 (List.map ti l)), vi x, vb false, vi 0] []) (Res.mk (Ex.exit 0) [V.t (T.sl 1 (List.map ti l)), vi x, vb false, vi (↑(List.length l) : Int)] [])]) (by kernel_rfl) ⟨o_a h, trivial⟩ ?_
    refine rt (a := Res.mk Ex.ret [vb false] []) (by kernel_rfl) ?_
    rfl
theorem f_joustref05_Drop_loop (l : List Entity) (ids : List Int) (hn : small l) (hm : small ids) : ∀ (d i : Nat) (A : List Entity), i + d = l.length → A.length ≤ i →
    Is cx (.loop 27 [0, 1, 0, 1, 1] 0 [.t (.sl 9 (l.map Entity.enc)), .t (.sl 1 (ids.map ti)), .all 0 none, vi i] [.arr 9 (A.map Entity.enc) none false])
      ⟨.exit 0, [.t (.sl 9 (l.map Entity.enc)), .t (.sl 1 (ids.map ti)), .all 0 none, vi l.length], [.arr 9 ((A ++ drops (l.drop i) ids).map Entity.enc) none false]⟩ := by
  have hn' := hn
  unfold small at hn
  intro d
  induction d with
  | zero =>
    intro i A hi hA
    rw [drop_end (by omega)]
    refine Wp.ev ?_
    refine gs (l := [.n (List.length (List.map Entity.enc l)) (List.length l), .b (decide ((↑i : Int) < (↑(List.length l) : Int))) false]) (by kernel_rfl) ⟨o_n (by simp), f_brp (by omega), trivial⟩ ?_
    refine rt (a := Res.mk (Ex.exit 0) [V.t (T.sl 9 (List.map Entity.enc l)), V.t (T.sl 1 (List.map ti ids)), V.all 0 none, vi (↑i : Int)] [Ob.arr 9 (List.map Entity.enc A) none false]) (by kernel_rfl) ?_
    ((have hq : i = l.length := by omega); subst hq; simp [drops])
  | succ d ih =>
    intro i A hi hA
    have hlt : i < l.length := by omega
    have ih1 := ih (i + 1) A (by omega) (by omega)
    have ih2 := ih (i + 1) (A ++ [gt l i]) (by omega) (by simp; omega)
    clear ih
    unfold drops at *
    rw [filter_gt _ hlt]
    refine Wp.ev ?_
    refine gs (l := [.n (List.length (List.map Entity.enc l)) (List.length l), .b (decide ((↑i : Int) < (↑(List.length l) : Int))) true, .w ((0 : Int) ≤ (↑i : Int)), .n (Int.toNat (↑i : Int)) i, .g (List.map Entity.enc l) i (Entity.enc (gt l i)), .a (Task.call 44 [V.t (T.sl 1 (List.map ti ids)), vi (gt l i).id] []) (Res.mk Ex.ret [vb (has ids (gt l i).id)] [])]) (by kernel_rfl) ⟨o_n (by simp), t_brp (by omega), o_w (by omega), o_n (by kernel_rfl), o_gt rfl (by assumption) (by intro h; cases h), o_a (f_jousthelp_In_int _ _ (by assumption)), trivial⟩ ?_
    refine brnot (b := has ids (gt l i).id) (by kernel_rfl) (fun h1 => ?_) (fun h1 => ?_)
    · refine gs (l := [.w ((0 : Int) ≤ (↑i : Int)), .n (Int.toNat (↑i : Int)) i, .g (List.map Entity.enc l) i (Entity.enc (gt l i)), .w ((0 : Nat) < (72 : Nat)), .t (T.sl 0 [Entity.enc (gt l i)]) (T.sl 0 (List.map Entity.enc [gt l i])), .t (T.sl 0 (List.map Entity.enc A ++ List.map Entity.enc [gt l i])) (T.sl 0 (List.map Entity.enc (A ++ [gt l i]))), .w (room (List.length (List.map Entity.enc (A ++ [gt l i]))) (72 : Nat)), .i IntKind.i64 ((↑i : Int) + 1) ((↑(i + 1) : Int)), .a (Task.loop 27 [0, 1, 0, 1, 1] 0 [V.t (T.sl 9 (List.map Entity.enc l)), V.t (T.sl 1 (List.map ti ids)), V.all 0 none, vi (↑(i + 1) : Int)] [Ob.arr 9 (List.map Entity.enc (A ++ [gt l i])) none false]) (Res.mk (Ex.exit 0) [V.t (T.sl 9 (List.map Entity.enc l)), V.t (T.sl 1 (List.map ti ids)), V.all 0 none, vi (↑(List.length l) : Int)] [Ob.arr 9 (List.map Entity.enc (A ++ [gt l i] ++ List.filter (fun (e : Entity) ↦ !has ids e.id) (List.drop (i + 1) l))) none false])]) (by kernel_rfl) ⟨o_w (by omega), o_n (by kernel_rfl), o_gt rfl (by assumption) (by intro h; cases h), o_w (by omega), o_l (nm_cons rfl nm_nil), o_l (nm_app rfl rfl), o_w (by (simp [room, appendMax]; omega)), o_i (w64 (by (simp [room, appendMax]; omega))), o_a ih2, trivial⟩ ?_
      refine rt (a := Res.mk (Ex.exit 0) [V.t (T.sl 9 (List.map Entity.enc l)), V.t (T.sl 1 (List.map ti ids)), V.all 0 none, vi (↑(List.length l) : Int)] [Ob.arr 9 (List.map Entity.enc (A ++ [gt l i] ++ List.filter (fun (e : Entity) ↦ !has ids e.id) (List.drop (i + 1) l))) none false]) (by kernel_rfl) ?_
      simp_all
    · refine gs (l := [.i IntKind.i64 ((↑i : Int) + 1) ((↑(i + 1) : Int)), .a (Task.loop 27 [0, 1, 0, 1, 1] 0 [V.t (T.sl 9 (List.map Entity.enc l)), V.t (T.sl 1 (List.map ti ids)), V.all 0 none, vi (↑(i + 1) : Int)] [Ob.arr 9 (List.map Entity.enc A) none false]) (Res.mk (Ex.exit 0) [V.t (T.sl 9 (List.map Entity.enc l)), V.t (T.sl 1 (List.map ti ids)), V.all 0 none, vi (↑(List.length l) : Int)] [Ob.arr 9 (List.map Entity.enc (A ++ List.filter (fun (e : Entity) ↦ !has ids e.id) (List.drop (i + 1) l))) none false])]) (by kernel_rfl) ⟨o_i (w64 (by (simp [room, appendMax]; omega))), o_a ih1, trivial⟩ ?_
      refine rt (a := Res.mk (Ex.exit 0) [V.t (T.sl 9 (List.map Entity.enc l)), V.t (T.sl 1 (List.map ti ids)), V.all 0 none, vi (↑(List.length l) : Int)] [Ob.arr 9 (List.map Entity.enc (A ++ List.filter (fun (e : Entity) ↦ !has ids e.id) (List.drop (i + 1) l))) none false]) (by kernel_rfl) ?_
      simp_all
theorem f_joustref05_Drop (l : List Entity) (ids : List Int) (hn : small l) (hm : small ids) : Fn cx 27 [.sl 9 (l.map Entity.enc), .sl 1 (ids.map ti)] (.sl 9 ((drops l ids).map Entity.enc)) := by
  have h := f_joustref05_Drop_loop l ids hn hm l.length 0 [] (by omega) (by simp)
  rw [List.drop_zero, List.nil_append] at h
  refine Wp.ev ?_
  refine gs (l := [.a (Task.loop 27 [0, 1, 0, 1, 1] 0 [V.t (T.sl 9 (List.map Entity.enc l)), V.t (T.sl 1 (List.map ti ids)), V.all 0 none, vi 0] [Ob.arr 9 [] none false]) (Res.mk (Ex.exit 0) [V.t (T.sl 9 (List.map Entity.enc l)), V.t (T.sl 1 (List.map ti ids)), V.all 0 none, vi (↑(List.length l) : Int)] [Ob.arr 9 (List.map Entity.enc (drops l ids)) none false])]) (by kernel_rfl) ⟨o_a h, trivial⟩ ?_
  refine rt (a := Res.mk Ex.ret [V.t (T.sl 9 (List.map Entity.enc (drops l ids)))] []) (by kernel_rfl) ?_
  rfl
end Go.Eva.S1

/- Eva, part 45: which entities are right. -/
namespace Go.Eva

def pace (v : Int) : Bool := decide (v = 0) || decide (v = 160) || decide (v = -160)
def Entity.right (c : Config) (e : Entity) : Bool := c.inside e.x e.y &&
  (if e.kind = 1 then within e.id 1 c.players && within e.vx (-64) 64 && within e.vy (-64) 64 && within e.health 1 100 && within e.age 0 6 && decide (e.owner = 0)
   else if e.kind = 2 then within e.id 1000 2147483647 && decide (e.health = 1) && pace e.vx && pace e.vy && (!decide (e.vx = 0) || !decide (e.vy = 0)) && within e.age 0 12 && within e.owner 1 c.players
   else if e.kind = 3 then within e.id 1000 2147483647 && decide (e.health = 1) && decide (e.vx = 0) && decide (e.vy = 0) && decide (e.age = 0) && decide (e.owner = 0)
   else false)

theorem beqd (a b : Int) : (a == b) = decide (a = b) := by rw [Bool.eq_iff_iff]; simp
theorem bned (a b : Int) : (a != b) = !decide (a = b) := by rw [Bool.eq_iff_iff]; simp
theorem teq_ent {a b : Entity} : teq a.enc b.enc = decide (a = b) := by rw [Bool.eq_iff_iff, teq_iff, Entity.enc_inj, decide_eq_true_eq]
theorem teq_cross {a b : Cross} : teq a.enc b.enc = decide (a = b) := by rw [Bool.eq_iff_iff, teq_iff, Cross.enc_inj, decide_eq_true_eq]
theorem teq_input {a b : Input} : teq a.enc b.enc = decide (a = b) := by rw [Bool.eq_iff_iff, teq_iff, Input.enc_inj, decide_eq_true_eq]

theorem Config.inside_false {c : Config} {x y : Int} (h : c.right = false) : c.inside x y = false := by
  cases hi : c.inside x y with
  | false => rfl
  | true =>
    simp only [Config.inside, Config.width, h, within_iff, Bool.and_eq_true, Bool.false_eq_true, if_false] at hi
    omega
theorem Config.grid_inside {c : Config} {x y : Int} : c.grid.inside x y = c.inside x y := by
  unfold Config.grid
  split
  · rfl
  · rename_i h
    rw [Config.inside_false (c := Config.zero) rfl, Config.inside_false (c := c) (by simpa using h)]
theorem Config.inside_right {c : Config} {x y : Int} (h : c.inside x y = true) : c.right = true := by
  cases hr : c.right with
  | true => rfl
  | false => rw [Config.inside_false hr] at h; contradiction
theorem Entity.right_grid {c : Config} {e : Entity} : Entity.right c.grid e = Entity.right c e := by
  unfold Entity.right
  rw [Config.grid_inside]
  cases h : c.inside e.x e.y with
  | false => simp
  | true =>
    have hr := Config.inside_right h
    simp [Config.grid, hr]
end Go.Eva
