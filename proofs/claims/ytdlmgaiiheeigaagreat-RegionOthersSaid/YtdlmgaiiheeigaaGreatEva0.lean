/- A reading of the program, proved sound against the model, and what its functions answer by it: part 0. -/
import Derived.Calls
import Derived.Below
import Derived.ArgAppend
import Derived.Laws.MakeOwn
import Derived.Laws.CopyRow
import Derived.Laws.Rows
import Derived.Laws.Entries
import Derived.Laws.IdiomCopy
import Derived.Laws.StructEq
import Derived.Laws.Tables
set_option linter.unusedSimpArgs false
set_option linter.unusedVariables false
open List renaming length → zq, map → zz, replicate → zj, set → zx, take → zw, drop → zk
open Int renaming toNat → zy, tmod → zg, fdiv → zh
open Go.IntKind renaming i64 → zd, u64 → zf, wrap → zp
open BitVec renaming ofInt → zb
namespace Go.Eva
inductive T where
 |any
 |int (k:IntKind) (n:Int)
 |bool (b:Bool)
 |str (s:ByteArray)
 |agg (vs:List T)
 |sl (sz:Nat) (xs:List T)
 |ip (sz:Nat) (x:T) (off:Nat)
 |clo (f:Nat) (cs:List T)
 |nilp|nilf|nilm
 |nul
 |pin (v:Value)
inductive V where
 |t (x:T)
 |nil
 |fit (sz:Nat) (xs:List T)
 |all (id:Nat) (lim:Option Nat)
 |sl (id off len:Nat) (lim:Option Nat)
 |ptr (id i j:Nat)
 |clo (f:Nat) (cs:List V)
 |agg (vs:List V)
 |tup (vs:List V)
inductive Ob where
 |arr (sz:Nat) (xs:List T) (spare:Option Nat) (ro:Bool)
 |one (sz:Nat) (v:V) (ro:Bool)
 |vec (vs:List V)
 |dead
abbrev Heap:=List Ob
inductive Task where
 |call (f:Nat) (args:List V) (H:Heap)
 |loop (f:Nat) (p:List Nat) (keep:Nat) (vs:List V) (H:Heap)
inductive Ex where
 |normal|exit (id:Nat)|ret
structure Res where
 e:Ex
 vs:List V
 H:Heap
inductive Q (α:Type):Type where
 |fail
 |ret (a:α)
 |ask (t:Task) (k:Res→Q α)
 |test (b:Bool) (k:Bool→Q α)
 |num (kd:IntKind) (n:Int) (k:Int→Q α)
 |get (xs:List T) (i:Nat) (k:T→Q α)
 |norm (x:T) (k:T→Q α)
 |nat (n:Nat) (k:Nat→Q α)
 |cap (lo:Nat) (k:Nat→Q α)
 |want (p:Prop) (q:Q α)
 |both (p q:Q α)
def Q.bind {α β:Type}:Q α→(α→Q β)→Q β
 | .fail,_=> .fail
 | .ret a,f=>f a
 | .ask t k,f=> .ask t fun x=>(k x).bind f
 | .test b k,f=> .test b fun x=>(k x).bind f
 | .num kd n k,f=> .num kd n fun x=>(k x).bind f
 | .get xs i k,f=> .get xs i fun x=>(k x).bind f
 | .norm x k,f=> .norm x fun y=>(k y).bind f
 | .nat n k,f=> .nat n fun y=>(k y).bind f
 | .cap lo k,f=> .cap lo fun y=>(k y).bind f
 | .want p q,f=> .want p (q.bind f)
 | .both p q,f=> .both (p.bind f) (q.bind f)
def wpQ (S:Task→(Res→Prop)→Prop) {α:Type}:Q α→(α→Prop)→Prop
 | .fail,_=>False
 | .ret a,R=>R a
 | .ask t k,R=> ∃R',S t R'∧(∃x,R' x)∧ ∀x,R' x→wpQ S (k x) R
 | .test b k,R=>wpQ S (k b) R
 | .num kd n k,R=>wpQ S (k (kd.wrap n)) R
 | .get xs i k,R=> ∃x,xs[i]?=some x∧x≠ .any∧wpQ S (k x) R
 | .norm x k,R=>wpQ S (k x) R
 | .nat n k,R=>wpQ S (k n) R
 | .cap lo k,R=> ∀c,lo≤c→wpQ S (k c) R
 | .want p q,R=>p∧wpQ S q R
 | .both p q,R=>wpQ S p R∧wpQ S q R
inductive Ty where
 |int (k:IntKind)|bool|str|ptr|fn|slice (e:Nat)|struct (fs:List (Nat×Nat))|map (k e:Nat)|other
structure TI where
 ty:Ty
 size:Nat
 bytes:Nat
 eq:Bool
inductive Mode where
 |pure|fresh|inout
inductive RV where
 |tmp (t:Nat)|cell (a t:Nat)
inductive Ord where
 |done
 |one (i:Nat) (r:Ord)
 |two (i:Nat) (r:Ord) (j:Nat) (s:Ord)
 |alt (i:Nat) (r:Ord) (s:Ord)
structure FI where
 code:Code
 res:List RV
 mode:Mode
 live:List (List Nat×List Nat)
 draws:List (Nat×Ord)
 own:List (List Nat×List Nat)
 tidy:Bool
inductive Tr (α:Type) where
 |z
 |n (l:Tr α) (v:α) (r:Tr α)
 |h (l:Tr α) (r:Tr α)
def Tr.get {α:Type}:Tr α→Nat→Option α
 | .z,_=>none
 | .n l v r,i=>match Nat.beq i 0 with
  |true=>some v
  |false=>match Nat.beq (Nat.mod i 2) 1 with
   |true=>l.get (Nat.div i 2)
   |false=>r.get (Nat.pred (Nat.div i 2))
 | .h l r,i=>match Nat.beq i 0 with
  |true=>none
  |false=>match Nat.beq (Nat.mod i 2) 1 with
   |true=>l.get (Nat.div i 2)
   |false=>r.get (Nat.pred (Nat.div i 2))
inductive Xf where
 |overlaps (t:Nat)
structure Cx where
 ti:Tr TI
 fn:Tr (Option FI)
 ex:List (Nat×Xf)
 mks:List (Nat×Nat):= []
def madeIn:List (Nat×Nat)→Nat→Nat→Bool
 | [],_,_=>false
 |(x,y)::r,t,d=>match Nat.beq x t&&Nat.beq y d with|true=>true|false=>madeIn r t d
def made (cx:Cx) (t:Nat):Option Nat→Bool
 |some d=>madeIn cx.mks t d
 |none=>false
def exAt:List (Nat×Xf)→Nat→Option Xf
 | [],_=>none
 |(g,x)::r,f=>match Nat.beq g f with|true=>some x|false=>exAt r f
def nth {α:Type}:List α→Nat→Option α
 | [],_=>none
 |x::_,0=>some x
 |_::r,n+1=>nth r n
def T.cells:T→List T
 | .agg vs=>vs
 |x=> [x]
def V.cells:V→List V
 | .t (.agg vs)=>vs.map .t
 | .agg vs=>vs
 |v=> [v]
def allT:List V→Option (List T)
 | []=>some []
 | .t x::r=>match allT r with|some l=>some (x::l)|none=>none
 |_=>none
def mkAgg (vs:List V):V:=match allT vs with|some l=> .t (.agg l)|none=> .agg vs
abbrev Env:=List (Nat×V)
def look:Env→Nat→V
 | [],_=> .t .any
 |(t',v)::r,t=>match Nat.beq t' t with|true=>v|false=>look r t
structure St where
 env:Env
 H:Heap
def force (v:V):Q V:=match v with
 | .t x=> .ret (.t x)
 | .nil=> .ret .nil
 | .fit s xs=> .ret (.fit s xs)
 | .all i l=> .ret (.all i l)
 | .sl i o n l=> .ret (.sl i o n l)
 | .ptr i j o=> .ret (.ptr i j o)
 | .clo f cs=> .ret (.clo f cs)
 | .agg vs=> .ret (.agg vs)
 | .tup vs=> .ret (.tup vs)
def forceT (x:T):Q T:=match x with
 | .any=> .ret .any
 | .int k n=> .ret (.int k n)
 | .bool b=> .ret (.bool b)
 | .str s=> .ret (.str s)
 | .agg vs=> .ret (.agg vs)
 | .sl s xs=> .ret (.sl s xs)
 | .ip s x o=> .ret (.ip s x o)
 | .clo f cs=> .ret (.clo f cs)
 | .nilp=> .ret .nilp
 | .nilf=> .ret .nilf
 | .nilm=> .ret .nilm
 | .nul=> .ret .nul
 | .pin v=> .ret (.pin v)
def cutT:List T→Nat→Nat→Q (List T)
 |_,_,0=> .ret []
 | [],_,_+1=> .fail
 |_::r,off+1,n+1=>cutT r off (n+1)
 |x::r,0,n+1=>(forceT x).bind fun x=>(cutT r 0 n).bind fun l=> .ret (x::l)
def cutV:List V→Nat→Nat→Q (List V)
 |_,_,0=> .ret []
 | [],_,_+1=> .fail
 |_::r,off+1,n+1=>cutV r off (n+1)
 |x::r,0,n+1=>(force x).bind fun x=>(cutV r 0 n).bind fun l=> .ret (x::l)
def over {α:Type}:List α→Nat→List α→List α
 |l,_,[]=>l
 | [],_,_::_=> []
 |x::r,off+1,ys=>x::over r off ys
 |_::r,0,y::ys=>y::over r 0 ys
def V.size (v:V):Nat:=v.cells.length
def constT:Value→Option T
 | .int k n=>some (.int k n)
 | .bool b=>some (.bool b)
 | .string s=>some (.str s)
 | .pointer none=>some .nilp
 | .nilFunc=>some .nilf
 | .map none=>some .nilm
 |_=>none
def constTs:List Value→Option (List T)
 | []=>some []
 |v::r=>match constT v,constTs r with|some x,some l=>some (x::l)|_,_=>none
def constV:Value→V
 | .slice none 0 0=> .nil
 | .agg cs=>match constTs cs.toList with|some l=> .t (.agg l)|none=> .t .any
 |v=>match constT v with|some x=> .t x|none=> .t .any
def evalO (e:Env):Operand→V
 | .tmp t=>look e t
 | .const v=>constV v
 | .func f=> .t (.clo f [])
 | .global _=> .t .any
def litN (n:Nat):Q Nat:=match n with
 |0=> .ret 0|1=> .ret 1|2=> .ret 2|3=> .ret 3|4=> .ret 4|5=> .ret 5|6=> .ret 6|7=> .ret 7|8=> .ret 8
 |9=> .ret 9|10=> .ret 10|11=> .ret 11|12=> .ret 12|13=> .ret 13|14=> .ret 14|15=> .ret 15|16=> .ret 16
 |n=> .ret n
def forceN:List Nat→Q (List Nat)
 | []=> .ret []
 |x::r=>(litN x).bind fun x=>(forceN r).bind fun l=> .ret (x::l)
def typed (cx:Cx) (ty:Nat) (v:V):Q V:=match v with
 | .nil=>match cx.ti.get ty with
  |some {ty:= .slice e,.. }=>match cx.ti.get e with
   |some i=>(litN i.size).bind fun s=> .ret (.fit s [])
   |none=> .fail
  |_=> .fail
 |v=>force v
def mem (l:List Nat) (i:Nat):Bool:=match l with
 | []=>false
 |x::r=>match Nat.beq x i with|true=>true|false=>mem r i
mutual
def fz (l:List Nat) (H:Heap):Nat→V→Option T
 |0,_=>none
 |_+1,.t x=>some x
 |_+1,.nil=>none
 |_+1,.fit s xs=>some (.sl s xs)
 |_+1,.all id _=>match mem l id,nth H id with
  |true,some (.arr s xs _ _)=>some (.sl s xs)
  |_,_=>none
 |_+1,.sl id off len _=>match mem l id,nth H id with
  |true,some (.arr s xs _ _)=>some (.sl s ((xs.drop off).take len))
  |_,_=>none
 |n+1,.ptr id i j=>match mem l id,nth H id,i with
  |true,some (.one s v _),0=>match fz l H n v with
   |some x=>some (.ip s x j)
   |none=>none
  |_,_,_=>none
 |n+1,.clo f cs=>match fzs l H n cs with
  |some l=>some (.clo f l)
  |none=>none
 |n+1,.agg vs=>match fzs l H n vs with
  |some l=>some (.agg l)
  |none=>none
 |_+1,.tup _=>none
def fzs (l:List Nat) (H:Heap):Nat→List V→Option (List T)
 |0,_=>none
 |_+1,[]=>some []
 |n+1,v::r=>match fz l H n v,fzs l H n r with
  |some x,some l=>some (x::l)
  |_,_=>none
end
def depth:Nat:=40
mutual
def V.ids:V→List Nat
 | .all i _=> [i]
 | .sl i _ _ _=> [i]
 | .ptr i _ _=> [i]
 | .clo _ cs=>idss cs
 | .agg cs=>idss cs
 | .tup cs=>idss cs
 |_=> []
def idss:List V→List Nat
 | []=> []
 |v::r=>v.ids++idss r
end
def Ob.ids:Ob→List Nat
 | .one _ v _=>v.ids
 | .vec vs=>idss vs
 |_=> []
def reach (H:Heap):Nat→List Nat→List Nat→List Nat
 |0,_,done=>done
 |_+1,[],done=>done
 |n+1,i::todo,done=>match mem done i with
  |true=>reach H n todo done
  |false=>match nth H i with
   |some o=>reach H n (todo++o.ids) (done++ [i])
   |none=>reach H n todo (done++ [i])
def place:List Nat→Nat→Nat→Option Nat
 | [],_,_=>none
 |x::r,i,n=>match Nat.beq x i with|true=>some n|false=>place r i (n+1)
mutual
def V.re (m:Nat→Option Nat):V→Option V
 | .t x=>some (.t x)
 | .nil=>some .nil
 | .fit s xs=>some (.fit s xs)
 | .all i l=>match m i with|some j=>some (.all j l)|none=>none
 | .sl i o n l=>match m i with|some j=>some (.sl j o n l)|none=>none
 | .ptr i o n=>match m i with|some j=>some (.ptr j o n)|none=>none
 | .clo f cs=>match vre m cs with|some l=>some (.clo f l)|none=>none
 | .agg cs=>match vre m cs with|some l=>some (.agg l)|none=>none
 | .tup cs=>match vre m cs with|some l=>some (.tup l)|none=>none
def vre (m:Nat→Option Nat):List V→Option (List V)
 | []=>some []
 |v::r=>match v.re m,vre m r with|some x,some l=>some (x::l)|_,_=>none
end
def Ob.re (m:Nat→Option Nat):Ob→Option Ob
 | .one s v ro=>match v.re m with|some v=>some (.one s v ro)|none=>none
 | .arr s xs f ro=>some (.arr s xs f ro)
 | .vec vs=>match vre m vs with|some l=>some (.vec l)|none=>none
 | .dead=>some .dead
def obre (m:Nat→Option Nat):Heap→Option Heap
 | []=>some []
 |o::r=>match o.re m,obre m r with|some o,some l=>some (o::l)|_,_=>none
def pull (m:Nat→Option Nat) (H:Heap):List Nat→Option Heap
 | []=>some []
 |i::r=>match nth H i with
  |some o=>match o.re m,pull m H r with
   |some o,some l=>some (o::l)
   |_,_=>none
  |none=>none
def upto:Nat→Nat→List Nat
 |_,0=> []
 |i,n+1=>i::upto (i+1) n
def nodupB:List Nat→Bool
 | []=>true
 |x::r=>match mem r x with|true=>false|false=>nodupB r
def startsB:Nat→Nat→List Nat→Bool
 |_,0,_=>true
 |i,n+1,x::r=>match Nat.beq x i with|true=>startsB (i+1) n r|false=>false
 |_,_+1,[]=>false
structure Gc where
 vs:List V
 H:Heap
 back:List Nat
def gc (keep:Nat) (vs:List V) (H:Heap):Q Gc:=
 (forceN (reach H 200 (upto 0 keep++idss vs) [])).bind fun back=>
  match nodupB back&&startsB 0 keep back,vre (fun i=>place back i 0) vs,pull (fun i=>place back i 0) H back with
  |true,some vs,some H'=> .ret ⟨vs,H',back⟩
  |_,_,_=> .fail
def setAll:Heap→List Nat→Heap→Option Heap
 |H,[],[]=>some H
 |H,i::back,o::os=>setAll (H.set i o) back os
 |_,_,_=>none
def roOb:Ob→Ob
 | .arr s xs f _=> .arr s xs f true
 | .one s v _=> .one s v true
 | .vec _=> .dead
 | .dead=> .dead
def roAll:Nat→List Nat→Heap→Heap
 |_,_,[]=> []
 |n,l,o::r=>match mem l n with
  |true=>roOb o::roAll (n+1) l r
  |false=>o::roAll (n+1) l r
def T.flat:T→Bool
 | .int _ _=>true
 | .bool _=>true
 | .str _=>true
 |_=>false
def flats:List T→Bool
 | []=>true
 |x::r=>x.flat&&flats r
def toT (v:V) (H:Heap):Q (T×Heap):=match v with
 | .t x=> .ret (x,H)
 | .fit s xs=> .ret (.sl s xs,H)
 |v=>(forceN (reach H 200 v.ids [])).bind fun l=>match fz l H depth v with
  |some x=> .norm x fun x=> .ret (x,roAll 0 l H)
  |none=> .fail
mutual
def pinT:V→Option T
 | .t x=>some x
 | .fit _ []=>some .nul
 | .agg vs=>match pinTs vs with|some l=>some (.agg l)|none=>none
 |_=>none
def pinTs:List V→Option (List T)
 | []=>some []
 |v::r=>match pinT v,pinTs r with|some x,some l=>some (x::l)|_,_=>none
end
def zT (b:Bool) (z:V) (H:Heap):Q (T×Heap):=match b with
 |true=>match pinT z with|some x=> .ret (x,H)|none=> .fail
 |false=>toT z H
def fzClos:List V→Heap→Q (List V×Heap)
 | [],H=> .ret ([],H)
 |v::r,H=>match v with
  | .clo f cs=>(toT (.clo f cs) H).bind fun (x,H)=>(fzClos r H).bind fun (l,H)=> .ret (.t x::l,H)
  |v=>(fzClos r H).bind fun (l,H)=> .ret (v::l,H)
def fzArgs (l:List Nat) (H:Heap):List V→Q (List T)
 | []=> .ret []
 |v::r=>match v with
  | .t x=>(fzArgs l H r).bind fun ts=> .ret (x::ts)
  | .fit s xs=>(fzArgs l H r).bind fun ts=> .ret (.sl s xs::ts)
  | .sl id o n lim=>match fz l H depth (.sl id o n lim) with
   |some x=> .norm x fun x=>(fzArgs l H r).bind fun ts=> .ret (x::ts)
   |none=> .fail
  |v=>match fz l H depth v with
   |some x=>(fzArgs l H r).bind fun ts=> .ret (x::ts)
   |none=> .fail
def packRes (vs:List V) (H:Heap):Q (V×Heap):=match vs with
 | [v]=> .ret (v,H)
 |vs=> .ret (.tup vs,H)
def pureCall (f:Nat) (args:List V) (cs:List T) (H:Heap):Q (V×Heap):=
 (forceN (reach H 200 (idss args) [])).bind fun l=>
 (fzArgs l H args).bind fun az=>
  .ask (.call f ((az++cs).map .t) []) fun r=>match r with
   |⟨.ret,vs,_⟩=>match allT vs with
    |some ts=>match l with
     | []=>packRes vs H
     |l=> .test (flats ts) fun b=>match b with
      |true=>packRes vs H
      |false=>packRes vs (roAll 0 l H)
    |none=> .fail
   |_=> .fail
def callF (cx:Cx) (f:Nat) (args:List V) (H:Heap):Q (V×Heap):=
 match cx.fn.get f with
 |some (some fi)=>match fi.mode with
  | .pure=>pureCall f args [] H
  | .fresh=>
   (forceN (reach H 200 (idss args) [])).bind fun l=>
   (fzArgs l H args).bind fun az=>
    .ask (.call f (az.map .t) []) fun r=>match r with
     |⟨.ret,vs,H1⟩=>(forceN (upto H.length H1.length)).bind fun m=>match vre (nth m) vs,obre (nth m) H1 with
      |some vs,some H1=>match l with
       | []=>packRes vs (H++H1)
       |l=>packRes vs (roAll 0 l H++H1)
      |_,_=> .fail
     |_=> .fail
  | .inout=>(fzClos args H).bind fun (args,H)=>
   (gc 0 args H).bind fun g=>
    .ask (.call f g.vs g.H) fun r=>match r with
     |⟨.ret,vs,H1⟩=>(forceN (upto H.length (H1.length-g.back.length))).bind fun m=>
      match vre (nth (g.back++m)) vs,obre (nth (g.back++m)) H1 with
      |some vs,some H1=>match setAll H g.back (H1.take g.back.length) with
       |some H=>packRes vs (H++H1.drop g.back.length)
       |none=> .fail
      |_,_=> .fail
     |_=> .fail
 |_=> .fail
mutual
def zeroV (cx:Cx):Nat→Nat→Option V
 |0,_=>none
 |n+1,t=>match cx.ti.get t with
  |some i=>match i.ty with
   | .int k=>some (.t (.int k 0))
   | .bool=>some (.t (.bool false))
   | .str=>some (.t (.str ⟨#[]⟩))
   | .ptr=>some (.t .nilp)
   | .fn=>some (.t .nilf)
   | .map _ _=>some (.t .nilm)
   | .slice e=>match cx.ti.get e with|some i=>some (.fit i.size [])|none=>none
   | .struct fs=>match zeroVs cx n fs with|some l=>some (mkAgg l)|none=>none
   | .other=>none
  |none=>none
def zeroVs (cx:Cx):Nat→List (Nat×Nat)→Option (List V)
 |0,_=>none
 |_+1,[]=>some []
 |n+1,(_,t)::r=>match zeroV cx n t,zeroVs cx n r with|some v,some l=>some (v.cells++l)|_,_=>none
end
def toTs:List V→Heap→Q (List T×Heap)
 | [],H=> .ret ([],H)
 |v::r,H=>(toT v H).bind fun (x,H)=>(toTs r H).bind fun (l,H)=> .ret (x::l,H)
def setH:Heap→Nat→Ob→Q Heap
 | [],_,_=> .fail
 |_::r,0,o=> .ret (o::r)
 |x::r,n+1,o=>(setH r n o).bind fun r=> .ret (x::r)
def addH:Heap→Ob→Nat→Q (Nat×Heap)
 | [],o,n=>(litN n).bind fun n=> .ret (n,[o])
 |x::r,o,n=>(addH r o (n+1)).bind fun (n,r)=> .ret (n,x::r)
def alloc (o:Ob) (H:Heap):Q (Nat×Heap):=addH H o 0
def isStruct (cx:Cx) (t:Nat):Bool:=match cx.ti.get t with
 |some {ty:= .struct _,.. }=>true
 |_=>false
def sizeOf (cx:Cx) (t:Nat):Nat:=match cx.ti.get t with
 |some i=>i.size
 |none=>0
def bytesOf (cx:Cx) (t:Nat):Nat:=match cx.ti.get t with
 |some i=>i.bytes
 |none=>0
def there (H:Heap) (id:Nat):Bool:=match nth H id with
 |some (.one _ _ _)=>true
 |some (.arr _ _ _ _)=>true
 |some (.vec _)=>true
 |_=>false
def alive (H:Heap):V→Bool
 | .ptr id _ _=>there H id
 | .all id _=>there H id
 | .sl id _ _ _=>there H id
 | .tup _=>false
 |_=>true
def loadT (cx:Cx) (t:Nat) (s:Nat) (x:T) (j:Nat):Q V:=
 match isStruct cx t with
 |true=>match Nat.beq j 0&&Nat.beq (sizeOf cx t) s&& !Nat.beq s 1 with
  |true=> .ret (.t x)
  |false=>(cutT x.cells j (sizeOf cx t)).bind fun l=> .ret (.t (.agg l))
 |false=>(cutT x.cells j 1).bind fun l=>match l with
  | [x]=> .ret (.t x)
  |_=> .fail
def loadV (cx:Cx) (t:Nat) (s:Nat) (v:V) (j:Nat):Q V:=
 match isStruct cx t with
 |true=>match Nat.beq j 0&&Nat.beq (sizeOf cx t) s&& !Nat.beq s 1 with
  |true=>force v
  |false=>(cutV v.cells j (sizeOf cx t)).bind fun l=>force (mkAgg l)
 |false=>(cutV v.cells j 1).bind fun l=>match l with
  | [x]=> .ret x
  |_=> .fail
def partV (cx:Cx) (t:Nat) (vs:List V) (off:Nat):Q V:=
 match isStruct cx t with
 |true=>(cutV vs off (sizeOf cx t)).bind fun l=>force (mkAgg l)
 |false=>(cutV vs off 1).bind fun l=>match l with
  | [x]=> .ret x
  |_=> .fail
def loadAt (cx:Cx) (t:Nat) (a:V) (H:Heap):Q V:=match a with
 | .ptr id i j=>match nth H id with
  |some (.one s v _)=>match i with
   |0=>loadV cx t s v j
   |_=> .fail
  |some (.arr s xs _ _)=> .get xs i fun x=>loadT cx t s x j
  |some (.vec vs)=>match Nat.beq j 0&& !isStruct cx t with
   |true=>(cutV vs i 1).bind fun l=>match l with
    | [x]=> .ret x
    |_=> .fail
   |false=> .fail
  |_=> .fail
 | .t (.ip s x j)=>loadT cx t s x j
 |_=> .fail
def putV (cx:Cx) (t:Nat) (s:Nat) (old:V) (j:Nat) (v:V):Q V:=
 match isStruct cx t&&Nat.beq j 0&&Nat.beq (sizeOf cx t) s&& !Nat.beq s 1 with
 |true=>force v
 |false=>(cutV (over old.cells j v.cells) 0 s).bind fun l=>match old with
  | .t (.agg _)=>force (mkAgg l)
  | .agg _=>force (mkAgg l)
  |_=>match l with
   | [.t .any]=> .fail
   | [v]=> .ret v
   |_=> .fail
def putT (cx:Cx) (t:Nat) (s:Nat) (old:T) (j:Nat) (v:T):Q T:=
 match isStruct cx t&&Nat.beq j 0&&Nat.beq (sizeOf cx t) s&& !Nat.beq s 1 with
 |true=> .ret v
 |false=>(cutT (over old.cells j v.cells) 0 s).bind fun l=>match old with
  | .agg _=> .ret (.agg l)
  |_=>match l with
   | [.any]=> .fail
   | [v]=> .ret v
   |_=> .fail
def notAny:V→Bool
 | .t .any=>false
 |_=>true
def onlyIf {α:Type} (b:Bool) (q:Q α):Q α:=match b with
 |true=>q
 |false=> .fail
def fitsV (size s j:Nat) (v:V):Bool:=Nat.beq v.size size&&Nat.ble (j+v.size) s&&notAny v
def fitsT (size s j:Nat) (x:T):Bool:=Nat.beq x.cells.length size&&Nat.ble (j+x.cells.length) s&&notAny (.t x)
def normL {α:Type} (xs:List T) (k:List T→Q α):Q α:= .norm (.sl 0 xs) fun y=>match y with
 | .sl _ ys=>k ys
 |_=> .fail
def storeAt (cx:Cx) (t:Nat) (a:V) (v:V) (H:Heap):Q Heap:=match a with
 | .ptr id i j=>match nth H id with
  |some (.one s old false)=>match i with
   |0=>match alive H v with
    |true=>onlyIf (fitsV (sizeOf cx t) s j v) ((putV cx t s old j v).bind fun v=>setH H id (.one s v false))
    |false=> .fail
   |_=> .fail
  |some (.arr s _ _ false)=>(toT v H).bind fun (x,H)=>match nth H id with
   |some (.arr _ xs sp false)=>
    onlyIf (fitsT (sizeOf cx t) s j x) (match isStruct cx t&&Nat.beq j 0&&Nat.beq (sizeOf cx t) s&& !Nat.beq s 1 with
    |true=> .want (i<xs.length) (normL (xs.set i x) fun zs=>setH H id (.arr s zs sp false))
    |false=> .get xs i fun old=>(putT cx t s old j x).bind fun y=>normL (xs.set i y) fun zs=>setH H id (.arr s zs sp false))
   |_=> .fail
  |_=> .fail
 |_=> .fail
def elems (es:Nat) (v:V) (H:Heap):Option (List T):=match v with
 | .t (.sl s xs)=>match Nat.beq s es with|true=>some xs|false=>none
 | .fit s xs=>match Nat.beq s es with|true=>some xs|false=>none
 | .all id _=>match nth H id with
  |some (.arr s xs _ _)=>match Nat.beq s es with|true=>some xs|false=>none
  |_=>none
 | .sl id off len _=>match nth H id with
  |some (.arr s xs _ _)=>match Nat.beq s es with|true=>some ((xs.drop off).take len)|false=>none
  |_=>none
 |_=>none
def lenV (v:V) (H:Heap):Option Nat:=match v with
 | .t (.sl _ xs)=>some xs.length
 | .fit _ xs=>some xs.length
 | .all id _=>match nth H id with
  |some (.arr _ xs _ _)=>some xs.length
  |some (.vec vs)=>some vs.length
  |_=>none
 | .sl id _ len _=>match nth H id with
  |some (.arr _ _ _ _)=>some len
  |_=>none
 | .t (.str s)=>some s.size
 |_=>none
def idx {α:Type} (v:V) (k:Nat→Q α):Q α:=match v with
 | .t (.int _ n)=> .want (0≤n) (.nat n.toNat k)
 |_=> .fail
def optIdx {α:Type} (v:Option V) (d:Nat) (k:Nat→Q α):Q α:=match v with
 |some v=>idx v k
 |none=>k d
inductive Rm where
 |no|full|more (k:Nat)
def spL {α:Type} (lim sp:Option Nat) (g:Rm→Q α):Q α:=match lim with
 |some _=>g .no
 |none=>match sp with
  |none=>g .no
  |some k=> .test (decide (k=0)) fun z=>match z with
   |true=>g .full
   |false=>g (.more k)
def sliceOwn (es id off len:Nat) (lim:Option Nat) (H:Heap) (lo hi mx:Option V):Q (V×Heap):=match nth H id with
 |some (.arr s xs sp ro)=>match Nat.beq s es with
  |false=> .fail
  |true=>optIdx lo 0 fun l=>optIdx hi len fun h=>
   let plain (lim:Option Nat):Q (V×Heap):= .nat (off+l) fun o=> .nat (h-l) fun n=> .ret (.sl id o n lim,H)
   match mx with
   |some m=>idx m fun m=> .want (l≤h∧h≤m∧m≤len) (.nat (off+m) fun t=>plain (some t))
   |none=>spL lim sp fun rm=>match lim,rm with
    |none,.more k=> .want (l≤h∧off+h≤xs.length+k) (.test (decide (off+h≤xs.length)) fun b=>match b with
     |true=>plain lim
     |false=>match ro with
      |true=> .fail
      |false=>(setH H id .dead).bind fun H=>(alloc (.arr s (xs++List.replicate k .any) (some 0) false) H).bind fun (i,H)=> .nat (off+l) fun o=> .nat (h-l) fun n=> .ret (.sl i o n none,H))
    |some t,_=> .want (l≤h∧off+h≤t∧t≤xs.length) (plain lim)
    |none,.full=> .want (l≤h∧off+h≤xs.length) (plain lim)
    |none,.no=> .want (l≤h∧h≤len) (plain lim)
 |_=> .fail
def sliceTree (s:Nat) (xs:List T) (lo hi mx:Option V):Q V:=optIdx lo 0 fun l=>optIdx hi xs.length fun h=>match mx with
 |some m=>idx m fun m=> .want (l≤h∧h=m∧h≤xs.length) (.norm (.sl s ((xs.drop l).take (h-l))) fun x=>match x with
  | .sl s xs=> .ret (.fit s xs)
  |_=> .fail)
 |none=> .want (l≤h∧h≤xs.length) (.norm (.sl s ((xs.drop l).take (h-l))) fun x=> .ret (.t x))
def sliceFit (s:Nat) (xs:List T) (lo hi mx:Option V):Q V:=match mx with
 |some _=>sliceTree s xs lo hi mx
 |none=>optIdx lo 0 fun l=>optIdx hi xs.length fun h=> .want (l≤h∧h≤xs.length) (.test (decide (h=xs.length)) fun b=> .norm (.sl s ((xs.drop l).take (h-l))) fun x=>match b with
  |true=>match x with
   | .sl s xs=> .ret (.fit s xs)
   |_=> .fail
  |false=> .ret (.t x))
def sliceV (es:Nat) (v:V) (H:Heap) (lo hi mx:Option V):Q (V×Heap):=match v with
 | .t (.sl s xs)=>match Nat.beq s es with|true=>(sliceTree s xs lo hi mx).bind fun v=> .ret (v,H)|false=> .fail
 | .fit s xs=>match Nat.beq s es with|true=>(sliceFit s xs lo hi mx).bind fun v=> .ret (v,H)|false=> .fail
 | .all id lim=>match nth H id with
  |some (.arr _ xs _ _)=>sliceOwn es id 0 xs.length lim H lo hi mx
  |_=> .fail
 | .sl id off len lim=>sliceOwn es id off len lim H lo hi mx
 |_=> .fail
def indexV (es:Nat) (v i:V) (H:Heap):Q V:=match v with
 | .t (.sl s xs)=>match Nat.beq s es with|true=>idx i fun i=> .get xs i fun x=> .ret (.t (.ip s x 0))|false=> .fail
 | .fit s xs=>match Nat.beq s es with|true=>idx i fun i=> .get xs i fun x=> .ret (.t (.ip s x 0))|false=> .fail
 | .all id _=>match nth H id with
  |some (.arr s xs _ _)=>match Nat.beq s es with|true=>idx i fun i=> .want (i<xs.length) (.ret (.ptr id i 0))|false=> .fail
  |some (.vec vs)=>match Nat.beq 1 es with|true=>idx i fun i=> .want (i<vs.length) (.ret (.ptr id i 0))|false=> .fail
  |_=> .fail
 | .sl id off len _=>match nth H id with
  |some (.arr s _ _ _)=>match Nat.beq s es with|true=>idx i fun i=> .want (i<len) (.nat (off+i) fun i=> .ret (.ptr id i 0))|false=> .fail
  |_=> .fail
 |_=> .fail
def appendMax:Nat:=2^47
def ownV (v:V) (H:Heap):Q (V×Heap):=match v with
 | .fit s []=>match Nat.blt 0 s with
  |true=>(alloc (.arr s [] none false) H).bind fun (i,H)=> .ret (.all i none,H)
  |false=> .ret (.fit s [],H)
 |v=> .ret (v,H)
def ownL (own:List Nat):List Nat→List V→Heap→Q (List V×Heap)
 |t::ts,v::vs,H=>match mem own t with
  |true=>(ownV v H).bind fun (v,H)=>(ownL own ts vs H).bind fun (vs,H)=> .ret (v::vs,H)
  |false=>(ownL own ts vs H).bind fun (vs,H)=> .ret (v::vs,H)
 |_,vs,H=> .ret (vs,H)
def tidyV (v:V) (H:Heap):Q (V×Heap):=match v with
 | .all id none=>match nth H id with
  |some (.arr s xs _ false)=>(setH H id .dead).bind fun H=>(alloc (.arr s xs none false) H).bind fun (i,H)=> .ret (.all i none,H)
  |_=> .fail
 | .sl id off len none=>match nth H id,Nat.beq off 0 with
  |some (.arr s xs _ false),true=>normL (xs.take len) fun zs=>(setH H id .dead).bind fun H=>(alloc (.arr s zs none false) H).bind fun (i,H)=> .ret (.all i none,H)
  |_,_=> .fail
 |v=>ownV v H
def tidyL:List V→Heap→Q (List V×Heap)
 | [],H=> .ret ([],H)
 |v::vs,H=>(tidyV v H).bind fun (v,H)=>(tidyL vs H).bind fun (vs,H)=> .ret (v::vs,H)
def tidyR (b:Bool) (vs:List V) (H:Heap):Q (List V×Heap):=match b with
 |true=>tidyL vs H
 |false=> .ret (vs,H)
def killO:Ob→Ob
 | .arr _ _ _ _=> .dead
 |o=>o
def killK:Nat→Heap→Heap
 |0,H=>H
 |_+1,[]=> []
 |n+1,o::r=>killO o::killK n r
def killR (b:Bool) (n:Nat) (H:Heap):Heap:=match b with
 |true=>killK n H
 |false=>H
def room (n bytes:Nat):Prop:=n*bytes≤appendMax∧n≤appendMax
def renew (id s:Nat) (xs:List T) (bytes:Nat) (H:Heap):Q (V×Heap):=normL xs fun xs=>
 .want (room xs.length bytes) ((setH H id .dead).bind fun H=>(alloc (.arr s xs none false) H).bind fun (i,H)=> .ret (.all i none,H))
def anew (s:Nat) (zs:List T) (bytes:Nat) (H:Heap):Q (V×Heap):=normL zs fun zs=> .want (room zs.length bytes) ((alloc (.arr s zs none false) H).bind fun (i,H)=> .ret (.all i none,H))
def inPlace (id s off len:Nat) (xs ys:List T) (sp lim:Option Nat) (ro:Bool) (H:Heap):Q (V×Heap):=match ro with
 |true=> .fail
 |false=>normL (xs.take (off+len)++ys++xs.drop (off+len+ys.length)) fun zs=>(setH H id (.arr s zs sp false)).bind fun H=> .nat (len+ys.length) fun n=> .ret (.sl id off n lim,H)
def appendV (es bytes:Nat) (v:V) (ys:List T) (H:Heap):Q (V×Heap):=
 match v with
 | .fit s []=>match Nat.beq s es with|true=>anew s ys bytes H|false=> .fail
 | .fit s xs=>match Nat.beq s es with|true=> .want (ys≠ []) (anew s (xs++ys) bytes H)|false=> .fail
 | .all id none=>match nth H id with
  |some (.arr s xs _ false)=>match Nat.beq s es with|true=>renew id s (xs++ys) bytes H|false=> .fail
  |_=> .fail
 | .sl id off len lim=>match nth H id with
  |some (.arr s xs sp ro)=>match Nat.beq s es with
   |false=> .fail
   |true=>spL lim sp fun rm=>match lim,rm with
    |some t,_=> .test (decide (off+len+ys.length≤t)) fun b=>match b with
     |true=> .want (t≤xs.length) (inPlace id s off len xs ys sp lim ro H)
     |false=>anew s ((xs.drop off).take len++ys) bytes H
    |none,.full=> .test (decide (off+len+ys.length≤xs.length)) fun b=>match b with
     |true=>inPlace id s off len xs ys sp lim ro H
     |false=>anew s ((xs.drop off).take len++ys) bytes H
    |none,_=>match ro with
     |true=> .fail
     |false=> .want (off=0∧len=xs.length) (renew id s (xs++ys) bytes H)
  |_=> .fail
 |_=> .fail
def writeOver (es id off len:Nat) (ys:List T) (H:Heap):Q (V×Heap):=match nth H id with
 |some (.arr s xs sp false)=>match Nat.beq s es with
  |true=> .nat (min ys.length len) fun n=>
   normL (xs.take off++ys.take n++xs.drop (off+n)) fun zs=>(setH H id (.arr s zs sp false)).bind fun H=> .ret (.t (.int .i64 n),H)
  |false=> .fail
 |_=> .fail
def copyV (es:Nat) (d:V) (ys:List T) (H:Heap):Q (V×Heap):=
 match d with
 | .all id _=>match nth H id with
  |some (.arr _ xs _ _)=>writeOver es id 0 xs.length ys H
  |_=> .fail
 | .sl id off len _=>writeOver es id off len ys H
 |_=> .fail
def capOwn (id off:Nat) (lim:Option Nat) (H:Heap):Q (V×Heap):=match nth H id with
 |some (.arr s xs sp ro)=>match lim,sp with
  |some l,_=> .want (xs≠ []) (.nat (l-off) fun n=> .ret (.t (.int .i64 n),H))
  |none,some k=> .nat (xs.length+k-off) fun n=> .ret (.t (.int .i64 n),H)
  |none,none=> .cap xs.length fun c=>(setH H id (.arr s xs (some (c-xs.length)) ro)).bind fun H=> .nat (c-off) fun n=> .ret (.t (.int .i64 n),H)
 |_=> .fail
def capV (v:V) (H:Heap):Q (V×Heap):=
 match v with
 | .t (.sl _ xs)=> .cap xs.length fun c=> .ret (.t (.int .i64 c),H)
 | .fit _ xs=> .nat xs.length fun n=> .ret (.t (.int .i64 n),H)
 | .all id lim=>capOwn id 0 lim H
 | .sl id off _ lim=>capOwn id off lim H
 |_=> .fail
def isBool (cx:Cx) (t:Nat):Bool:=match cx.ti.get t with
 |some i=>match i.ty with| .bool=>true|_=>false
 |none=>false
def isInt (cx:Cx) (t:Nat):Bool:=match cx.ti.get t with
 |some i=>match i.ty with| .int _=>true|_=>false
 |none=>false
def isPtr (cx:Cx) (t:Nat):Bool:=match cx.ti.get t with
 |some i=>match i.ty with| .ptr=>true|_=>false
 |none=>false
noncomputable def teq (x y:T):Bool:= @decide (x=y) (Classical.propDecidable _)
def conformF (cx:Cx) (c:Nat→T→Bool):Nat→List (Nat×Nat)→List T→Bool
 |_,[],[]=>true
 |_,[],_::_=>false
 |pos,(off,t)::fs,vs=>Nat.beq off pos&&match isStruct cx t with
  |true=>Nat.ble (sizeOf cx t) vs.length&&c t (.agg (vs.take (sizeOf cx t)))&&conformF cx c (pos+sizeOf cx t) fs (vs.drop (sizeOf cx t))
  |false=>match vs with
   |x::vs=>c t x&&conformF cx c (pos+1) fs vs
   | []=>false
def conform (cx:Cx):Nat→Nat→T→Bool
 |0,_,_=>false
 |n+1,t,x=>match cx.ti.get t with
  |some i=>match i.ty,x with
   | .int k,.int k' _=>decide (k=k')
   | .bool,.bool _=>true
   | .struct fs,.agg vs=>i.eq&&conformF cx (conform cx n) 0 fs vs
   |_,_=>false
  |none=>false
def elemTy (cx:Cx) (t:Nat):Option Nat:=match cx.ti.get t with
 |some {ty:= .slice e,.. }=>some e
 |_=>none
def isNil (v:V) (k:Bool→Q V):Q V:=match v with
 | .nil=>k true
 | .t (.sl _ xs)=> .cap 0 fun c=>k (decide (c=0∧xs.length=0))
 | .fit _ xs=> .cap 0 fun c=>k (decide (c=0∧xs.length=0))
 | .all _ _=> .cap 0 fun c=>k (decide (c=0))
 | .sl _ _ _ _=> .cap 0 fun c=>k (decide (c=0))
 |_=> .fail
def nilSl (cx:Cx) (op:BinOp) (ty:Nat) (x y:V):Q V:=match y,elemTy cx ty with
 | .nil,some _=>match op with
  | .eql=>isNil x fun b=> .ret (.t (.bool b))
  | .neq=>isNil x fun b=> .ret (.t (.bool (!b)))
  |_=> .fail
 |_,_=> .fail
def nilCmp (cx:Cx) (ty:Nat) (op:BinOp) (b:Bool):Q V:=match isPtr cx ty with
 |true=>match op with
  | .eql=> .ret (.t (.bool b))
  | .neq=> .ret (.t (.bool (!b)))
  |_=> .fail
 |false=> .fail
noncomputable def binV (cx:Cx) (op:BinOp) (ty:Nat) (x y:V):Q V:=match x,y with
 | .t (.int k a),.t (.int k' b)=>match op with
  | .shl=> .want (0≤b) (.num k (a*2^(min b.toNat k.bits)) fun n=> .ret (.t (.int k n)))
  | .shr=> .want (0≤b) (.norm (.int k (a.fdiv (2^(min b.toNat k.bits)))) fun x=> .ret (.t x))
  |_=>match decide (k=k') with
   |false=> .fail
   |true=>match op with
    | .add=> .num k (a+b) fun n=> .ret (.t (.int k n))
    | .sub=> .num k (a-b) fun n=> .ret (.t (.int k n))
    | .mul=> .num k (a*b) fun n=> .ret (.t (.int k n))
    | .quo=> .want (b≠0) (.num k (a.tdiv b) fun n=> .ret (.t (.int k n)))
    | .rem=> .want (b≠0) (.norm (.int k (a.tmod b)) fun x=> .ret (.t x))
    | .and=> .num k (BitVec.ofInt k.bits a&&&BitVec.ofInt k.bits b).toNat fun n=> .ret (.t (.int k n))
    | .or=> .num k (BitVec.ofInt k.bits a|||BitVec.ofInt k.bits b).toNat fun n=> .ret (.t (.int k n))
    | .xor=> .num k (BitVec.ofInt k.bits a^^^BitVec.ofInt k.bits b).toNat fun n=> .ret (.t (.int k n))
    | .andNot=> .num k (BitVec.ofInt k.bits a&&& ~~~BitVec.ofInt k.bits b).toNat fun n=> .ret (.t (.int k n))
    | .eql=> .ret (.t (.bool (a==b)))
    | .neq=> .ret (.t (.bool (a !=b)))
    | .lss=> .ret (.t (.bool (decide (a<b))))
    | .leq=> .ret (.t (.bool (decide (a≤b))))
    | .gtr=> .ret (.t (.bool (decide (a>b))))
    | .geq=> .ret (.t (.bool (decide (a≥b))))
    |_=> .fail
 | .t (.bool a),.t (.bool b)=>match op with
  | .eql=> .want (isBool cx ty=true) (.ret (.t (.bool (a==b))))
  | .neq=> .want (isBool cx ty=true) (.ret (.t (.bool (!(a==b)))))
  |_=> .fail
 | .t (.agg xs),.t (.agg ys)=>match op with
  | .eql=> .want (conform cx depth ty (.agg xs)=true∧conform cx depth ty (.agg ys)=true) (.ret (.t (.bool (teq (.agg xs) (.agg ys)))))
  | .neq=> .want (conform cx depth ty (.agg xs)=true∧conform cx depth ty (.agg ys)=true) (.ret (.t (.bool (!(teq (.agg xs) (.agg ys))))))
  |_=> .fail
 | .t .nilp,.t .nilp=>nilCmp cx ty op true
 | .t .nilp,.ptr _ _ _=>nilCmp cx ty op false
 | .t .nilp,.t (.ip _ _ _)=>nilCmp cx ty op false
 | .ptr _ _ _,.t .nilp=>nilCmp cx ty op false
 | .t (.ip _ _ _),.t .nilp=>nilCmp cx ty op false
 |x,y=>nilSl cx op ty x y
def unV (op:UnOp) (x:V):Q V:=match op,x with
 | .neg,.t (.int k n)=> .num k (0-n) fun n=> .ret (.t (.int k n))
 | .xor,.t (.int k n)=> .num k (BitVec.ofInt k.bits (if k.signed then-1 else k.max)^^^BitVec.ofInt k.bits n).toNat fun n=> .ret (.t (.int k n))
 | .not,.t (.bool b)=> .ret (.t (.bool (!b)))
 |_,_=> .fail
def intTy (cx:Cx) (t:Nat):Option IntKind:=match cx.ti.get t with
 |some {ty:= .int k,.. }=>some k
 |_=>none
def fieldAt (cx:Cx) (t f:Nat):Option (Nat×Nat):=match cx.ti.get t with
 |some {ty:= .struct fs,.. }=>nth fs f
 |_=>none
def args (cx:Cx) (e:Env):List Operand→List Nat→Q (List V)
 |x::xs,t::ts=>(typed cx t (evalO e x)).bind fun v=>(args cx e xs ts).bind fun l=> .ret (v::l)
 | [],_=> .ret []
 |x::xs,[]=>(force (evalO e x)).bind fun v=>(args cx e xs []).bind fun l=> .ret (v::l)
def fill (cx:Cx) (e:Env) (H:Heap) (fs:List (Nat×Nat)):List (Nat×Operand)→List V→Q (List V)
 | [],cs=> .ret cs
 |(i,x)::r,cs=>match nth fs i with
  |some (off,t)=>(typed cx t (evalO e x)).bind fun v=>match Nat.beq v.size (sizeOf cx t)&&Nat.ble (off+v.size) cs.length&&alive H v with
   |true=>match v with
    | .t .any=> .fail
    |v=>fill cx e H fs r (over cs off v.cells)
   |false=> .fail
  |none=> .fail
def partsAt:Nat→List (Nat×Operand)→Option (List Operand)
 |_,[]=>some []
 |n,(i,x)::r=>match Nat.beq i n,partsAt (n+1) r with
  |true,some l=>some (x::l)
  |_,_=>none
def sameOp:Operand→Operand→Bool
 | .tmp a,.tmp b=>Nat.beq a b
 |_,_=>false
def minI (a b:Int):Int:=if b<a then b else a
def maxI (a b:Int):Int:=if b>a then b else a
def foldI (f:Int→Int→Int) (k:IntKind):Int→List V→Q V
 |n,[]=> .norm (.int k n) fun x=> .ret (.t x)
 |n,.t (.int k' m)::r=>match decide (k=k') with|true=>foldI f k (f n m) r|false=> .fail
 |_,_=> .fail
def isTreeSl (es:Nat):V→Bool
 | .fit s _=>Nat.beq s es
 | .t (.sl s _)=>Nat.beq s es
 |_=>false
def isOwnSl (H:Heap):V→Bool
 | .all id _=>match nth H id with|some (.arr _ _ _ false)=>true|_=>false
 | .sl id _ _ _=>match nth H id with|some (.arr _ _ _ false)=>true|_=>false
 |_=>false
def extV (cx:Cx) (x:Xf) (vs:List V) (H:Heap):Q (V×Heap):=match x,vs with
 | .overlaps t,[a,b]=>match elemTy cx t with
  |some el=>match isTreeSl (sizeOf cx el) a&&isOwnSl H b with
   |true=> .ret (.t (.bool false),H)
   |false=> .fail
  |none=> .fail
 |_,_=> .fail
def lenTy (cx:Cx) (t:Nat):V→Bool
 | .t (.str _)=>match cx.ti.get t with
  |some {ty:= .str,.. }=>true
  |_=>false
 |_=>(elemTy cx t).isSome
def vecOf (es:Nat) (s x:V) (H:Heap):Option (List V):=match s,x with
 | .fit z [],.all id _=>match Nat.beq z 1&&Nat.beq es 1,nth H id with
  |true,some (.vec (x::ws))=>some (x::ws)
  |_,_=>none
 |_,_=>none
def builtinV (cx:Cx) (b:Builtin) (ts:List Nat) (vs:List V) (H:Heap):Q (V×Heap):=match b,vs with
 | .len,[v]=>match ts with
  | [t]=>match lenTy cx t v,lenV v H with
   |true,some n=> .nat n fun n=> .ret (.t (.int .i64 n),H)
   |_,_=> .fail
  |_=> .fail
 | .cap,[v]=>match ts with
  | [t]=>match elemTy cx t with
   |some _=>capV v H
   |none=> .fail
  |_=> .fail
 | .append,[s,x]=>match ts with
  | [t,t']=>match elemTy cx t with
   |some e=>match x with
    | .t (.int _ n)=>match isInt cx t',zeroV cx depth e with
      |true,some z=>(toT z H).bind fun (z,H)=> .want (0≤n∧room n.toNat (bytesOf cx e)) (.nat n.toNat fun n=>appendV (sizeOf cx e) (bytesOf cx e) s (List.replicate n z) H)
      |_,_=> .fail
    |x=>match Nat.beq t t',vecOf (sizeOf cx e) s x H with
     |true,some ws=> .want (0<bytesOf cx e∧room ws.length (bytesOf cx e)) ((alloc (.vec ws) H).bind fun (i,H)=> .ret (.all i none,H))
     |_,_=>match Nat.beq t t',elems (sizeOf cx e) x H with
      |true,some ys=> .want (0<bytesOf cx e) (.norm (.sl 0 ys) fun y=>match y with
       | .sl _ ys=>appendV (sizeOf cx e) (bytesOf cx e) s ys H
       |_=> .fail)
      |_,_=> .fail
   |none=> .fail
  |_=> .fail
 | .clear,[d]=>match ts with
  | [t]=>match elemTy cx t with
   |some e=>match zeroV cx depth e with
    |some z=>(toT z H).bind fun (z,H)=>match lenV d H with
      |some n=>(copyV (sizeOf cx e) d (List.replicate n z) H).bind fun (_,H)=> .ret (.tup [],H)
      |none=> .fail
    |none=> .fail
   |none=> .fail
  |_=> .fail
 | .copy,[d,x]=>match ts with
  | [t,_]=>match elemTy cx t with
   |some e=>match elems (sizeOf cx e) x H with
    |some ys=>copyV (sizeOf cx e) d ys H
    |none=> .fail
   |none=> .fail
  |_=> .fail
 | .min,.t (.int k n)::r=>(foldI minI k n r).bind fun v=> .ret (v,H)
 | .max,.t (.int k n)::r=>(foldI maxI k n r).bind fun v=> .ret (v,H)
 |_,_=> .fail
def sizesOk (H:Heap) (s:Nat):List V→Bool
 | []=>true
 |v::r=>Nat.beq v.size s&&alive H v&&notAny v&&sizesOk H s r
def newOne (cx:Cx) (t:Nat) (v:V) (H:Heap):Q (V×Heap):=match v,Nat.beq v.size (sizeOf cx t)&&alive H v with
 | .t .any,_=> .fail
 |v,true=>(litN (sizeOf cx t)).bind fun s=>(alloc (.one s v false) H).bind fun (i,H)=> .ret (.ptr i 0 0,H)
 |_,false=> .fail
mutual
def flatTy (cx:Cx):Nat→Nat→Bool
 |0,_=>false
 |n+1,t=>match cx.ti.get t with
  |some i=>match i.ty with
   | .int _=>true
   | .bool=>true
   | .str=>true
   | .struct fs=>flatTys cx n fs
   |_=>false
  |none=>false
def flatTys (cx:Cx):Nat→List (Nat×Nat)→Bool
 |0,_=>false
 |_+1,[]=>true
 |n+1,(_,t)::r=>flatTy cx n t&&flatTys cx n r
end
def litSl (b:Bool) (s:Nat) (xs:List T) (H:Heap):Q (V×Heap):=match b with
 |true=>(alloc (.arr s xs (some 0) false) H).bind fun (i,H)=> .ret (.all i none,H)
 |false=> .ret (.fit s xs,H)
def plainV:V→Bool
 | .all _ _=>true
 | .ptr _ _ _=>true
 |_=>false
def plainVs:List V→Bool
 | []=>true
 |v::r=>plainV v&&plainVs r
def madeVec (b:Bool) (es:Nat) (vs:List V):Bool:=b&&Nat.beq es 1&&plainVs vs
def isFnB (cx:Cx) (f:Nat):Bool:=match cx.fn.get f with
 |some (some _)=>true
 |_=>false
noncomputable def opQ (cx:Cx) (o:Oper) (e:Env) (H:Heap):Q (V×Heap):=
 let pure (q:Q V):Q (V×Heap):=q.bind fun v=> .ret (v,H)
 match o.op with
 | .move x=>pure (typed cx o.type (evalO e x))
 | .assign x=>pure (typed cx o.type (evalO e x))
 | .pick c a b=>match evalO e c with
   | .t (.bool c)=> .test c fun c=>match c with
     |true=>pure (force (evalO e a))
     |false=>pure (force (evalO e b))
   |_=> .fail
 | .alloc t=>match zeroV cx depth t with
   |some z=>(force z).bind fun z=>newOne cx t z H
   |none=> .fail
 | .box t x=>(typed cx t (evalO e x)).bind fun v=>newOne cx t v H
 | .build t parts=>match zeroV cx depth t,cx.ti.get t with
   |some z,some {ty:= .struct fs,.. }=>(fill cx e H fs parts.toList z.cells).bind fun cs=>(cutV cs 0 (sizeOf cx t)).bind fun cs=>pure (force (mkAgg cs))
   |_,_=> .fail
 | .buildSlice t len parts=>match elemTy cx t,partsAt 0 parts.toList with
   |some el,some xs=>match Nat.beq len xs.length&&Nat.ble (len*sizeOf cx el) 16777216 with
     |true=>(litN (sizeOf cx el)).bind fun s=>(args cx e xs (xs.map fun _=>el)).bind fun vs=>match sizesOk H (sizeOf cx el) vs with
      |true=>match flatTy cx depth el with
       |true=>match allT vs with
         |some xs=>litSl (made cx t o.dst) s xs H
         |none=> .fail
       |false=>match madeVec (made cx t o.dst) (sizeOf cx el) vs with
        |true=>(alloc (.vec vs) H).bind fun (i,H)=> .ret (.all i none,H)
        |false=>(toTs vs H).bind fun (xs,H)=>litSl (made cx t o.dst) s xs H
      |false=> .fail
     |false=> .fail
   |_,_=> .fail
 | .load t a=>pure (loadAt cx t (evalO e a) H)
 | .store t a x=>(typed cx t (evalO e x)).bind fun v=>(storeAt cx t (evalO e a) v H).bind fun H=> .ret (.tup [],H)
 | .nilCheck x=>match evalO e x with
   | .ptr i j k=>match nth H i with
     |some (.one _ _ _)=> .ret (.ptr i j k,H)
     |some (.arr _ _ _ _)=> .ret (.ptr i j k,H)
     |_=> .fail
   | .t (.ip s x j)=> .ret (.t (.ip s x j),H)
   | .t (.clo f cs)=> .ret (.t (.clo f cs),H)
   | .clo f cs=> .ret (.clo f cs,H)
   |_=> .fail
 | .binOp op t x y _=>match alive H (evalO e x)&&alive H (evalO e y) with
   |true=>pure (binV cx op t (evalO e x) (evalO e y))
   |false=> .fail
 | .unOp op _ x=>pure (unV op (evalO e x))
 | .convert _ dst x=>match evalO e x,intTy cx dst with
   | .t (.int _ n),some k=> .num k n fun n=> .ret (.t (.int k n),H)
   |_,_=> .fail
 | .makeFunc (.func f) first captured=>match first.toList with
   | []=>(args cx e captured.toList []).bind fun vs=>match allT vs with
     |some l=> .ret (.t (.clo f l),H)
     |none=> .ret (.clo f vs,H)
   |_=> .fail
 | .makeSlice t l c=>match elemTy cx t with
   |some el=>match zeroV cx depth el,evalO e l,evalO e c with
     |some z,.t (.int _ n),.t (.int _ m)=>(zT (made cx t o.dst) z H).bind fun (z,H)=>
      .want (0≤n∧n≤m∧room m.toNat (bytesOf cx el)) (.nat m.toNat fun m=>(litN (sizeOf cx el)).bind fun s=>(alloc (.arr s (List.replicate m z) (some 0) false) H).bind fun (i,H)=>
       match sameOp l c with
       |true=> .ret (.all i none,H)
       |false=> .nat n.toNat fun n=> .ret (.sl i 0 n none,H))
     |_,_,_=> .fail
   |none=> .fail
 | .slice t x lo hi mx=>match mx,hi with
  |some _,none=> .fail
  |_,_=>match elemTy cx t with
   |some el=>(typed cx t (evalO e x)).bind fun v=>sliceV (sizeOf cx el) v H (lo.map (evalO e)) (hi.map (evalO e)) (mx.map (evalO e))
   |none=> .fail
 | .fieldAddr t a f=>match fieldAt cx t f,evalO e a with
   |some (off,ft),.ptr id i j=>match nth H id,Nat.beq (sizeOf cx ft) 0 with
     |some (.one _ _ _),false=>(litN (j+off)).bind fun j=> .ret (.ptr id i j,H)
     |some (.arr _ _ _ _),false=>(litN (j+off)).bind fun j=> .ret (.ptr id i j,H)
     |_,_=> .fail
   |some (off,ft),.t (.ip s x j)=>match Nat.beq (sizeOf cx ft) 0 with
    |true=> .fail
    |false=>(litN (j+off)).bind fun j=> .ret (.t (.ip s x j),H)
   |_,_=> .fail
 | .field t x f=>match fieldAt cx t f with
   |some (off,ft)=>match evalO e x with
     | .t (.agg vs)=>pure (partV cx ft (vs.map .t) off)
     | .agg vs=>pure (partV cx ft vs off)
     |_=> .fail
   |none=> .fail
 | .indexAddr t x i=>match elemTy cx t with
   |some el=>(typed cx t (evalO e x)).bind fun v=>pure (indexV (sizeOf cx el) v (evalO e i) H)
   |none=> .fail
 | .extract x i=>match evalO e x with
   | .tup vs=>match nth vs i with
     |some v=>pure (force v)
     |none=> .fail
   |_=> .fail
 | .call c=>match c.callee with
   | .builtin b=>(args cx e c.args.toList c.argTypes.toList).bind fun vs=>builtinV cx b c.argTypes.toList vs H
   | .value (.func f)=>match exAt cx.ex f with
     |some x=>(args cx e c.args.toList c.argTypes.toList).bind fun vs=>extV cx x vs H
     |none=>(args cx e c.args.toList c.argTypes.toList).bind fun vs=>callF cx f vs H
   | .value f=>match evalO e f with
     | .t (.clo f cs)=> .want (isFnB cx f=true) ((args cx e c.args.toList c.argTypes.toList).bind fun vs=>pureCall f vs cs H)
     | .clo f cs=>(args cx e c.args.toList c.argTypes.toList).bind fun vs=>callF cx f (vs++cs) H
     |_=> .fail
   |_=> .fail
 |_=> .fail
def put (dst:Option Nat) (v:V) (e:Env):Env:=match dst with
 |some d=>(d,v)::e
 |none=>e
def dstOf (all:List Oper) (j:Nat):Option Nat:=match nth all j with
 |some o=>o.dst
 |none=>none
noncomputable def stepQ (cx:Cx) (all:List Oper) (o:Oper) (e:Env) (H:Heap):Q (Env×Heap):=match o.guard with
 |none=>(opQ cx o e H).bind fun (v,H)=> .ret (put o.dst v e,H)
 |some (j,w)=>match dstOf all j with
  |some g=>match look e g with
   | .t (.bool b)=> .test b fun b=>match b==w with
    |true=>(opQ cx o ((g,.t (.bool b))::e) H).bind fun (v,H)=> .ret (put o.dst v ((g,.t (.bool b))::e),H)
    |false=> .ret (put o.dst (.tup []) ((g,.t (.bool b))::e),H)
   | .tup []=> .ret (put o.dst (.tup []) e,H)
   |_=> .fail
  |none=> .fail
noncomputable def runOps (cx:Cx) (all:List Oper):List Oper→Env→Heap→Q (Env×Heap)
 | [],e,H=> .ret (e,H)
 |o::r,e,H=>(stepQ cx all o e H).bind fun (e,H)=>runOps cx all r e H
noncomputable def ordQ (cx:Cx) (all:List Oper):Ord→Env→Heap→Q (Env×Heap)
 | .done,e,H=> .ret (e,H)
 | .one i r,e,H=>match nth all i with
  |some o=>(stepQ cx all o e H).bind fun (e,H)=>ordQ cx all r e H
  |none=> .fail
 | .two i r j s,e,H=>match nth all i,nth all j with
  |some o,some p=> .both ((stepQ cx all o e H).bind fun (e,H)=>ordQ cx all r e H) ((stepQ cx all p e H).bind fun (e,H)=>ordQ cx all s e H)
  |_,_=> .fail
 | .alt i r s,e,H=>match nth all i with
  |some o=> .both ((stepQ cx all o e H).bind fun (e,H)=>ordQ cx all r e H) (ordQ cx all s e H)
  |none=> .fail
def drawAt:List (Nat×Ord)→Nat→Option Ord
 | [],_=>none
 |(i,o)::r,n=>match Nat.beq i n with|true=>some o|false=>drawAt r n
def subAt (c:Code):List Nat→Option Code
 | []=>some c
 |d::p=>match subAt c p with
  |some (.seq a b)=>match d with|0=>some a|_=>some b
  |some (.cond _ a b)=>match d with|0=>some a|_=>some b
  |some (.block _ a)=>some a
  |some (.loop a)=>some a
  |_=>none
def eqL:List Nat→List Nat→Bool
 | [],[]=>true
 |x::a,y::b=>match Nat.beq x y with|true=>eqL a b|false=>false
 |_,_=>false
def liveAt:List (List Nat×List Nat)→List Nat→Option (List Nat)
 | [],_=>none
 |(q,l)::r,p=>match eqL q p with|true=>some l|false=>liveAt r p
def ownAt (fi:FI) (p:List Nat):List Nat:=match liveAt fi.own p with
 |some l=>l
 |none=> []
def looks (e:Env):List Nat→Q (List V)
 | []=> .ret []
 |t::r=>(force (look e t)).bind fun v=>(looks e r).bind fun l=> .ret (v::l)
def zipE:List Nat→List V→Env
 |t::ts,v::vs=>(t,v)::zipE ts vs
 |_,_=> []
noncomputable def exec (cx:Cx) (f:Nat) (fi:FI) (keep:Nat):List Nat→Code→Env→Heap→Q (Ex×Env×Heap)
 |_,.skip,e,H=> .ret (.normal,e,H)
 |_,.region id ops draw,e,H=>match draw with
  |false=>(runOps cx ops.toList ops.toList e H).bind fun (e,H)=> .ret (.normal,e,H)
  |true=>match drawAt fi.draws id with
   |some d=>(ordQ cx ops.toList d e H).bind fun (e,H)=> .ret (.normal,e,H)
   |none=> .fail
 |p,.seq a b,e,H=>(exec cx f fi keep (0::p) a e H).bind fun (x,e,H)=>match x with
  | .normal=>exec cx f fi keep (1::p) b e H
  |x=> .ret (x,e,H)
 |p,.cond c a b,e,H=>match evalO e c with
  | .t (.bool t)=> .test t fun t=>match t with
   |true=>exec cx f fi keep (0::p) a e H
   |false=>exec cx f fi keep (1::p) b e H
  |_=> .fail
 |p,.block id c,e,H=>(exec cx f fi keep (0::p) c e H).bind fun (x,e,H)=>match x with
  | .exit i=>match Nat.beq i id with
   |true=> .ret (.normal,e,H)
   |false=> .ret (.exit i,e,H)
  |x=> .ret (x,e,H)
 |p,.loop _,e,H=>match liveAt fi.live p with
  |some live=>(looks e live).bind fun vs=>(ownL (ownAt fi p) live vs H).bind fun (vs,H)=>(gc keep vs H).bind fun g=> .ask (.loop f p keep g.vs g.H) fun r=> .ret (r.e,zipE live r.vs,r.H)
  |none=> .fail
 |_,.exit id,e,H=> .ret (.exit id,e,H)
 |_,.ret,e,H=> .ret (.ret,e,H)
 |_,_,_,_=> .fail
def resV (cx:Cx) (e:Env) (H:Heap):List RV→Q (List V)
 | []=> .ret []
 | .tmp t::r=>(force (look e t)).bind fun v=>(resV cx e H r).bind fun l=> .ret (v::l)
 | .cell a t::r=>(loadAt cx t (look e a) H).bind fun v=>(resV cx e H r).bind fun l=> .ret (v::l)
noncomputable def body (cx:Cx):Task→Q Res
 | .call f az H=>match cx.fn.get f with
  |some (some fi)=>(exec cx f fi H.length [] fi.code (zipE (upto 0 az.length) az) H).bind fun (x,e,H')=>match x with
   | .exit _=> .fail
   |_=>(resV cx e H' fi.res).bind fun vs=>match fi.mode with
    | .pure=>match H with
     | []=>(forceN (reach H' 200 (idss vs) [])).bind fun l=>(fzArgs l H' vs).bind fun ts=> .ret ⟨.ret,ts.map .t,[]⟩
     |_=> .fail
    | .fresh=>match H with
     | []=>(tidyR fi.tidy vs H').bind fun (vs,H')=>(gc 0 vs H').bind fun g=> .ret ⟨.ret,g.vs,g.H⟩
     |_=> .fail
    | .inout=>(tidyR fi.tidy vs H').bind fun (vs,H')=>(gc H.length vs (killR fi.tidy H.length H')).bind fun g=> .ret ⟨.ret,g.vs,g.H⟩
  |_=> .fail
 | .loop f p keep vs H=>match cx.fn.get f with
  |some (some fi)=>match subAt fi.code p,liveAt fi.live p with
   |some (.loop c),some live=>(exec cx f fi keep (0::p) c (zipE live vs) H).bind fun (x,e,H)=>(looks e live).bind fun vs=>(ownL (ownAt fi p) live vs H).bind fun (vs,H)=>(gc keep vs H).bind fun g=>match x with
    | .normal=> .ask (.loop f p keep g.vs g.H) fun r=> .ret r
    |x=> .ret ⟨x,g.vs,g.H⟩
   |_,_=> .fail
  |_=> .fail
theorem Akd {α:Type} {S S':Task→(Res→Prop)→Prop} (h: ∀t R,S t R→S' t R) (q:Q α): ∀R,wpQ S q R→wpQ S' q R:=by
 induction q with
 |fail=>exact fun _ h=>h
 |ret a=>exact fun _ h=>h
 |ask t k ih=>exact fun R ⟨R',h1,h0,h2⟩=>⟨R',h _ _ h1,h0,fun x hx=>ih x R (h2 x hx)⟩
 |test b k ih=>exact fun R hq=>ih _ R hq
 |num kd n k ih=>exact fun R hq=>ih _ R hq
 |get xs i k ih=>exact fun R ⟨x,h1,h0,h2⟩=>⟨x,h1,h0,ih x R h2⟩
 |norm x k ih=>exact fun R hq=>ih _ R hq
 |nat n k ih=>exact fun R hq=>ih _ R hq
 |cap lo k ih=>exact fun R hq c hc=>ih c R (hq c hc)
 |want p q ih=>exact fun R ⟨h1,h2⟩=>⟨h1,ih R h2⟩
 |both p q ih1 ih2=>exact fun R ⟨h1,h2⟩=>⟨ih1 R h1,ih2 R h2⟩
end Go.Eva
namespace Go.Eva
open Go.RowKit
theorem Aaj {α:Type} (l:List α) (i:Nat):nth l i=l[i]?:=by
 induction l generalizing i with
 |nil=>rfl
 |cons x r ih=>cases i with
  |zero=>rfl
  |succ n=>simpa [nth] using ih n
inductive TR (F:Nat→Prop) (w:World):T→Value→Prop
 |any (v:Value):TR F w .any v
 |int (k:IntKind) (n:Int):TR F w (.int k n) (.int k n)
 |bool (b:Bool):TR F w (.bool b) (.bool b)
 |str (s:ByteArray):TR F w (.str s) (.string s)
 |agg (vs:List T) (cs:Array Value) (hl:vs.length=cs.size) (h1: ∀(i:Nat) (c:Value),cs[i]?=some c→c.oneCell'=true)
  (hc: ∀(i:Nat) x (c:Value),vs[i]?=some x→cs[i]?=some c→TR F w x c):TR F w (.agg vs) (.agg cs)
 |slN (sz:Nat) (a:Option Addr) (cap:Nat):TR F w (.sl sz []) (.slice a 0 cap)
 |slC (sz:Nat) (xs:List T) (b o cap:Nat) (c:Nat→Nat→Value) (hn:xs≠ []) (hcap:xs.length≤cap) (hF:F b)
  (hc: ∀i j,i<xs.length→j<sz→w.cell? ⟨b,o+i*sz+j,none⟩=some (c i j)∧(c i j).oneCell'=true)
  (hl: ∀(i:Nat) (x:T),xs[i]?=some x→x≠ .any→x.cells.length=sz)
  (hr: ∀(i j:Nat) (x t:T),xs[i]?=some x→x≠ .any→x.cells[j]?=some t→TR F w t (c i j)):TR F w (.sl sz xs) (.slice (some ⟨b,o,none⟩) xs.length cap)
 |ip (sz:Nat) (x:T) (off b o:Nat) (c:Nat→Value) (hF:F b) (hx:x≠ .any)
  (hc: ∀j,j<sz→w.cell? ⟨b,o+j,none⟩=some (c j)∧(c j).oneCell'=true)
  (hl:x.cells.length=sz)
  (hr: ∀(j:Nat) (t:T),x.cells[j]?=some t→TR F w t (c j)):TR F w (.ip sz x off) (.pointer (some ⟨b,o+off,none⟩))
 |clo (f:Nat) (cs:List T) (vs:Array Value) (hl:cs.length=vs.size) (hc: ∀(i:Nat) x (v:Value),cs[i]?=some x→vs[i]?=some v→TR F w x v):
  TR F w (.clo f cs) (.func (.func f) #[] vs)
 |nilp:TR F w .nilp (.pointer none)
 |nilf:TR F w .nilf .nilFunc
 |nilm:TR F w .nilm (.map none)
 |nul (a:Option Addr):TR F w .nul (.slice a 0 0)
 |pin (v:Value) (h:v.oneCell'=true):TR F w (.pin v) v
theorem Agj {w w':World} {b o:Nat} (h:w'.heap[b]?=w.heap[b]?):w'.cell? ⟨b,o,none⟩=w.cell? ⟨b,o,none⟩:=
 World.cell?_of_block (w:=w) (a:=⟨b,o,none⟩) h
theorem TR.mono {F F':Nat→Prop} {w w':World} (hF: ∀b,F b→F' b) (hw: ∀b,F b→w'.heap[b]?=w.heap[b]?) {x:T} {v:Value} (h:TR F w x v):TR F' w' x v:=by
 induction h with
 |any v=>exact .any v
 |int k n=>exact .int k n
 |bool b=>exact .bool b
 |str s=>exact .str s
 |agg vs cs hl h1 hc ih=>exact .agg vs cs hl h1 ih
 |slN sz a cap=>exact .slN sz a cap
 |slC sz xs b o cap c hn hcap hFb hc hl hr ih=>
  exact .slC sz xs b o cap c hn hcap (hF _ hFb) (fun i j hi hj=>by rw [Agj (hw b hFb)];exact hc i j hi hj) hl ih
 |ip sz x off b o c hFb hx hc hl hr ih=>
  exact .ip sz x off b o c (hF _ hFb) hx (fun j hj=>by rw [Agj (hw b hFb)];exact hc j hj) hl ih
 |clo f cs vs hl hc ih=>exact .clo f cs vs hl ih
 |nilp=>exact .nilp
 |nilf=>exact .nilf
 |nilm=>exact .nilm
 |nul a=>exact .nul a
 |pin v h=>exact .pin v h
theorem TR.flat {F F':Nat→Prop} {w w':World} {x:T} {v:Value} (h:TR F w x v) (hf:x.flat=true):TR F' w' x v:=by
 cases h<;>simp [T.flat] at hf
 ·exact .int _ _
 ·exact .bool _
 ·exact .str _
abbrev Io:=Nat→Option Nat
def blk (w:World) (b:Nat):Nat:=match w.heap[b]? with
 |some (.cells c _ _)=>c.size
 |_=>0
theorem AfK {w w':World} {b:Nat} (h:w'.heap[b]?=w.heap[b]?):blk w' b=blk w b:=by unfold blk;rw [h]
def OwnSl (ι:Io) (w:World) (H:Heap) (id off:Nat) (n:Option Nat) (lim:Option Nat) (v:Value):Prop:=match H[id]? with
 |some .dead=>True
 |some (.arr sz xs _ _)=> ∃a cap,v= .slice a (n.getD xs.length) cap∧n.getD xs.length≤cap∧off+n.getD xs.length≤xs.length∧(match ι id with
  |none=>cap=0
  |some b=>(cap=0∨a=some ⟨b,off*sz,none⟩)∧(match lim with
   |some l=>off+cap=l∧l*sz≤blk w b
   |none=>(off+cap)*sz=blk w b))
 |some (.vec vs)=> ∃a cap b,v= .slice a (n.getD vs.length) cap∧n.getD vs.length≤cap∧off+n.getD vs.length≤vs.length∧ι id=some b∧(cap=0∨a=some ⟨b,off,none⟩)
 |_=>False
def OwnPtr (ι:Io) (H:Heap) (id i j:Nat) (v:Value):Prop:=match H[id]? with
 |some .dead=>True
 |some (.one _ _ _)=> ∃b,ι id=some b∧v= .pointer (some ⟨b,j,none⟩)
 |some (.arr sz xs _ _)=>i<xs.length∧ ∃b,ι id=some b∧v= .pointer (some ⟨b,i*sz+j,none⟩)
 |some (.vec vs)=>i<vs.length∧j=0∧ ∃b,ι id=some b∧v= .pointer (some ⟨b,i,none⟩)
 |none=>False
inductive VR (ι:Io) (F:Nat→Prop) (w:World) (H:Heap):V→Value→Prop
 |t (x:T) (v:Value) (h:TR F w x v):VR ι F w H (.t x) v
 |nil:VR ι F w H .nil (.slice none 0 0)
 |fit (sz:Nat) (xs:List T) (a:Option Addr) (h:TR F w (.sl sz xs) (.slice a xs.length xs.length)):VR ι F w H (.fit sz xs) (.slice a xs.length xs.length)
 |all (id:Nat) (lim:Option Nat) (v:Value) (h:OwnSl ι w H id 0 none lim v):VR ι F w H (.all id lim) v
 |sl (id off len:Nat) (lim:Option Nat) (v:Value) (h:OwnSl ι w H id off (some len) lim v):VR ι F w H (.sl id off len lim) v
 |ptr (id i j:Nat) (v:Value) (h:OwnPtr ι H id i j v):VR ι F w H (.ptr id i j) v
 |clo (f:Nat) (cs:List V) (vs:Array Value) (hl:cs.length=vs.size) (hc: ∀(i:Nat) x (v:Value),cs[i]?=some x→vs[i]?=some v→VR ι F w H x v):
  VR ι F w H (.clo f cs) (.func (.func f) #[] vs)
 |agg (vs:List V) (cs:Array Value) (hl:vs.length=cs.size) (h1: ∀(i:Nat) (c:Value),cs[i]?=some c→c.oneCell'=true)
  (hc: ∀(i:Nat) x (c:Value),vs[i]?=some x→cs[i]?=some c→VR ι F w H x c):VR ι F w H (.agg vs) (.agg cs)
 |tup (vs:List V) (cs:Array Value) (hl:vs.length=cs.size) (hc: ∀(i:Nat) x (c:Value),vs[i]?=some x→cs[i]?=some c→VR ι F w H x c):VR ι F w H (.tup vs) (.tuple cs)
def CellsR (F:Nat→Prop) (w:World) (b sz:Nat) (xs:List T):Prop:= ∃c:Nat→Nat→Value,
 (∀i j,i<xs.length→j<sz→w.cell? ⟨b,i*sz+j,none⟩=some (c i j)∧(c i j).oneCell'=true)∧
 (∀(i:Nat) (x:T),xs[i]?=some x→x≠ .any→x.cells.length=sz)∧
 (∀(i j:Nat) (x t:T),xs[i]?=some x→x≠ .any→x.cells[j]?=some t→TR F w t (c i j))
def ObR (ι:Io) (F:Nat→Prop) (w:World) (H:Heap) (id:Nat):Ob→Prop
 | .dead=>True
 | .one sz v _=>v≠ .t .any∧v.size=sz∧ ∃b val e,ι id=some b∧w.heap[b]?=some (.cells val.cells e (0,0))∧VR ι F w H v val∧val.cells.size=sz∧(∀(i:Nat) (c:Value),val.cells[i]?=some c→c.oneCell'=true)
 | .arr sz xs sp _=>0<sz∧((ι id=none∧xs= []∧ ∀k,sp=some k→k=0)∨ ∃b cs e,ι id=some b∧w.heap[b]?=some (.cells cs e (0,0))∧
  xs.length*sz≤cs.size∧(∀k,sp=some k→(xs.length+k)*sz=cs.size)∧(∃m,cs.size=m*sz)∧(∀(i:Nat) (c:Value),cs[i]?=some c→c.oneCell'=true)∧CellsR F w b sz xs)
 | .vec vs=> ∃b cs e,ι id=some b∧w.heap[b]?=some (.cells cs e (0,0))∧vs.length≤cs.size∧(∀(i:Nat) (c:Value),cs[i]?=some c→c.oneCell'=true)∧
  (∀(i:Nat) (v:V) (c:Value),vs[i]?=some v→cs[i]?=some c→VR ι F w H v c∧v≠ .t .any)
def Ob.ro:Ob→Bool
 | .arr _ _ _ r=>r
 | .one _ _ r=>r
 | .vec _=>false
 | .dead=>true
def Ob.isDead:Ob→Bool
 | .dead=>true
 |_=>false
def Own (ι:Io) (H:Heap) (b:Nat):Prop:= ∃id ob,H[id]?=some ob∧ob.ro=false∧ι id=some b
structure Good (ι:Io) (F:Nat→Prop) (w:World) (H:Heap):Prop where
 fin: ∀b,F b→b<w.heap.size
 obj: ∀id ob,H[id]?=some ob→ObR ι F w H id ob
 inj: ∀i j oi oj b,H[i]?=some oi→H[j]?=some oj→oi.isDead=false→oj.isDead=false→ι i=some b→ι j=some b→i=j
 sep: ∀b,Own ι H b→ ¬F b
 rof: ∀id ob b,H[id]?=some ob→ob.isDead=false→ob.ro=true→ι id=some b→F b
def Live (ι:Io) (H:Heap) (b:Nat):Prop:= ∃id ob,H[id]?=some ob∧ob.isDead=false∧ι id=some b
def Like (ι ι':Io) (w w':World) (id:Nat) (o o':Ob):Prop:=o'= .dead∨(match o with
 | .dead=>o'= .dead
 | .one s _ _=>ι' id=ι id∧ ∃v' ro',o'= .one s v' ro'
 | .arr s xs _ _=>ι' id=ι id∧(∀b,ι id=some b→blk w' b=blk w b)∧ ∃xs' sp' ro',o'= .arr s xs' sp' ro'∧xs'.length=xs.length
 | .vec vs=>ι' id=ι id∧ ∃vs',o'= .vec vs'∧vs'.length=vs.length)
theorem OwnSl.mono {ι ι':Io} {w w':World} {H H':Heap} (hl: ∀id o,H[id]?=some o→ ∃o',H'[id]?=some o'∧Like ι ι' w w' id o o')
  {id off:Nat} {n lim:Option Nat} {v:Value} (h:OwnSl ι w H id off n lim v):OwnSl ι' w' H' id off n lim v:=by
 unfold OwnSl at h⊢
 cases ho:H[id]? with
 |none=>simp [ho] at h
 |some o=>
  obtain ⟨o',ho',hk⟩:=hl id o ho
  rw [ho']
  rcases hk with rfl|hk
  ·trivial
  ·cases o with
   |dead=>simp only at hk;subst hk;trivial
   |one s v r=>simp [ho] at h
   |arr s xs sp ro=>
    simp only at hk
    obtain ⟨h1,h2,xs',sp',ro',rfl,hxs⟩:=hk
    rw [ho] at h
    simp only at h⊢
    obtain ⟨a,cap,e,h3,h4,h5⟩:=h
    refine ⟨a,cap,by rw [hxs];exact e,by rw [hxs];exact h3,by rw [hxs];exact h4,?_⟩
    rw [h1]
    cases hb:ι id with
    |none=>rw [hb] at h5;exact h5
    |some b=>
     rw [hb] at h5
     simp only at h5⊢
     rw [h2 b hb]
     exact h5
   |vec vs=>
    simp only at hk
    obtain ⟨h1,vs',rfl,hvs⟩:=hk
    rw [ho] at h
    simp only at h⊢
    obtain ⟨a,cap,b,e,h3,h4,h5,h6⟩:=h
    exact ⟨a,cap,b,by rw [hvs];exact e,by rw [hvs];exact h3,by rw [hvs];exact h4,by rw [h1];exact h5,h6⟩
theorem OwnPtr.mono {ι ι':Io} {w w':World} {H H':Heap} (hl: ∀id o,H[id]?=some o→ ∃o',H'[id]?=some o'∧Like ι ι' w w' id o o')
  {id i j:Nat} {v:Value} (h:OwnPtr ι H id i j v):OwnPtr ι' H' id i j v:=by
 unfold OwnPtr at h⊢
 cases ho:H[id]? with
 |none=>simp [ho] at h
 |some o=>
  obtain ⟨o',ho',hk⟩:=hl id o ho
  rw [ho']
  rcases hk with rfl|hk
  ·trivial
  ·cases o with
   |dead=>simp only at hk;subst hk;trivial
   |one s v r=>
    simp only at hk
    obtain ⟨h1,v',ro',rfl⟩:=hk
    rw [ho] at h
    simp only at h⊢
    rw [h1];exact h
   |arr s xs sp ro=>
    simp only at hk
    obtain ⟨h1,h2,xs',sp',ro',rfl,hxs⟩:=hk
    rw [ho] at h
    simp only at h⊢
    rw [h1,hxs];exact h
   |vec vs=>
    simp only at hk
    obtain ⟨h1,vs',rfl,hvs⟩:=hk
    rw [ho] at h
    simp only at h⊢
    rw [h1,hvs];exact h
theorem VR.mono {ι ι':Io} {F F':Nat→Prop} {w w':World} {H H':Heap} (hF: ∀b,F b→F' b) (hw: ∀b,F b→w'.heap[b]?=w.heap[b]?)
  (hl: ∀id o,H[id]?=some o→ ∃o',H'[id]?=some o'∧Like ι ι' w w' id o o') {x:V} {v:Value} (h:VR ι F w H x v):VR ι' F' w' H' x v:=by
 induction h with
 |t x v h=>exact .t x v (h.mono hF hw)
 |nil=>exact .nil
 |fit sz xs a h=>exact .fit sz xs a (h.mono hF hw)
 |all id lim v h=>exact .all id lim v (h.mono hl)
 |sl id off len lim v h=>exact .sl id off len lim v (h.mono hl)
 |ptr id i j v h=>exact .ptr id i j v (h.mono hl)
 |clo f cs vs hn hc ih=>exact .clo f cs vs hn ih
 |agg vs cs hn h1 hc ih=>exact .agg vs cs hn h1 ih
 |tup vs cs hn hc ih=>exact .tup vs cs hn ih
end Go.Eva
namespace Go.Eva
variable {S:Task→(Res→Prop)→Prop}
theorem Aaa {α β:Type} (q:Q α) (f:α→Q β): ∀(R:β→Prop),wpQ S (q.bind f) R→wpQ S q (fun a=>wpQ S (f a) R):=by
 induction q with
 |fail=>exact fun _ h=>h
 |ret a=>exact fun _ h=>h
 |ask t k ih=>exact fun R ⟨R',h1,h0,h2⟩=>⟨R',h1,h0,fun x hx=>ih x R (h2 x hx)⟩
 |test b k ih=>exact fun R hq=>ih _ R hq
 |num kd n k ih=>exact fun R hq=>ih _ R hq
 |get xs i k ih=>exact fun R ⟨x,h1,h0,h2⟩=>⟨x,h1,h0,ih x R h2⟩
 |norm x k ih=>exact fun R hq=>ih _ R hq
 |nat n k ih=>exact fun R hq=>ih _ R hq
 |cap lo k ih=>exact fun R hq c hc=>ih c R (hq c hc)
 |want p q ih=>exact fun R ⟨h1,h2⟩=>⟨h1,ih R h2⟩
 |both p q ih1 ih2=>exact fun R ⟨h1,h2⟩=>⟨ih1 R h1,ih2 R h2⟩
theorem Aat {v:V} {R:V→Prop} (h:wpQ S (force v) R):R v:=by cases v<;>exact h
theorem Ajl {x:T} {R:T→Prop} (h:wpQ S (forceT x) R):R x:=by cases x<;>exact h
theorem Abz {n:Nat} {R:Nat→Prop} (h:wpQ S (litN n) R):R n:=by
 unfold litN at h
 split at h<;>exact h
theorem Abn {l:List Nat} {R:List Nat→Prop} (h:wpQ S (forceN l) R):R l:=by
 induction l generalizing R with
 |nil=>exact h
 |cons x r ih=>
  have h1:=Abz (Aaa _ _ _ h)
  exact ih (Aaa _ _ _ h1)
theorem Ahk {l:List T} {off n:Nat} {R:List T→Prop} (h:wpQ S (cutT l off n) R):R ((l.drop off).take n)∧off+n≤l.length∨(n=0∧R []):=by
 induction l generalizing off n R with
 |nil=>cases n with
  |zero=>exact .inr ⟨rfl,h⟩
  |succ n=>exact (show False from h).elim
 |cons x r ih=>cases n with
  |zero=>exact .inr ⟨rfl,by cases off<;>exact h⟩
  |succ n=>cases off with
   |zero=>
    have h1:=Ajl (Aaa _ _ _ h)
    have h2:=Aaa _ _ _ h1
    rcases ih h2 with ⟨h3,h4⟩|⟨rfl,h3⟩
    ·exact .inl ⟨by simpa using (show R _ from h3),by simp;omega⟩
    ·exact .inl ⟨by simpa using (show R _ from h3),by simp⟩
   |succ off=>
    rcases ih (off:=off) (n:=n+1) h with ⟨h3,h4⟩|⟨h3,_⟩
    ·exact .inl ⟨by simpa using h3,by simp at h4⊢;omega⟩
    ·omega
theorem AcU {l:List V} {off n:Nat} {R:List V→Prop} (h:wpQ S (cutV l off n) R):R ((l.drop off).take n)∧off+n≤l.length∨(n=0∧R []):=by
 induction l generalizing off n R with
 |nil=>cases n with
  |zero=>exact .inr ⟨rfl,h⟩
  |succ n=>exact (show False from h).elim
 |cons x r ih=>cases n with
  |zero=>exact .inr ⟨rfl,by cases off<;>exact h⟩
  |succ n=>cases off with
   |zero=>
    have h1:=Aat (Aaa _ _ _ h)
    have h2:=Aaa _ _ _ h1
    rcases ih h2 with ⟨h3,h4⟩|⟨rfl,h3⟩
    ·exact .inl ⟨by simpa using (show R _ from h3),by simp;omega⟩
    ·exact .inl ⟨by simpa using (show R _ from h3),by simp⟩
   |succ off=>
    rcases ih (off:=off) (n:=n+1) h with ⟨h3,h4⟩|⟨h3,_⟩
    ·exact .inl ⟨by simpa using h3,by simp at h4⊢;omega⟩
    ·omega
theorem AiL {o:Ob}: ∀ {H:Heap} {n:Nat} {R:Nat×Heap→Prop},wpQ S (addH H o n) R→R (n+H.length,H++ [o])
 | [],n,R,h=>by
  have h1:=Abz (Aaa _ _ _ h)
  have h2:R (n,[o]):=h1
  simpa using h2
 |x::r,n,R,h=>by
  have h1:=AiL (Aaa _ _ _ h)
  have h2:R _:=h1
  have e:n+1+r.length=n+(x::r).length:=by simp;omega
  rw [e] at h2
  exact h2
def RmR (lim sp:Option Nat):Rm→Prop
 | .no=>lim=none→sp=none
 | .full=>sp=some 0
 | .more k=>sp=some k∧k≠0
theorem Ak1 {α:Type} {lim sp:Option Nat} {g:Rm→Q α} {R:α→Prop} (h:wpQ S (spL lim sp g) R): ∃r,wpQ S (g r) R∧RmR lim sp r:=by
 unfold spL at h
 split at h
 ·exact ⟨_,h,fun h=>nomatch h⟩
 ·split at h
  ·exact ⟨_,h,fun _=>rfl⟩
  ·rename_i k
   by_cases hk:k=0
   ·subst hk;exact ⟨.full,h,rfl⟩
   ·simp only [wpQ,hk,decide_false] at h
    exact ⟨_,h,rfl,hk⟩
theorem Aa5 {o:Ob} {H:Heap} {R:Nat×Heap→Prop} (h:wpQ S (alloc o H) R):R (H.length,H++ [o]):=by
 have:=AiL h
 simpa using this
theorem Abj {o:Ob}: ∀ {H:Heap} {n:Nat} {R:Heap→Prop},wpQ S (setH H n o) R→n<H.length∧R (H.set n o)
 | [],n,R,h=>by cases n<;>exact (show False from h).elim
 |x::r,0,R,h=>⟨by simp,h⟩
 |x::r,n+1,R,h=>by
  obtain ⟨h1,h2⟩:=Abj (Aaa _ _ _ h)
  exact ⟨by simp;omega,h2⟩
theorem Ads {α:Type}: ∀(l:List α) (j:Nat) (ys:List α),j+ys.length≤l.length→ ∀i,(over l j ys)[i]?=if j≤i∧i<j+ys.length then ys[i-j]? else l[i]?
 |l,j,[],_,i=>by
  simp only [over,List.length_nil,Nat.add_zero]
  rw [if_neg (by omega)]
 | [],j,y::ys,h,i=>by simp at h
 |x::r,j+1,y::ys,h,i=>by
  simp only [over]
  cases i with
  |zero=>simp
  |succ i=>
   have:=Ads r j (y::ys) (by simp at h⊢;omega) i
   simp only [List.getElem?_cons_succ,this]
   by_cases hc:j≤i∧i<j+(y::ys).length
   ·rw [if_pos hc,if_pos (by simp at hc⊢;omega)];congr 1;omega
   ·rw [if_neg hc,if_neg (by simp at hc⊢;omega)]
 |x::r,0,y::ys,h,i=>by
  simp only [over]
  cases i with
  |zero=>simp
  |succ i=>
   have:=Ads r 0 ys (by simp at h⊢;omega) i
   simp only [List.getElem?_cons_succ,this]
   by_cases hc:0≤i∧i<0+ys.length
   ·rw [if_pos hc,if_pos (by simp at hc⊢;omega)];simp
   ·rw [if_neg hc,if_neg (by simp at hc⊢;omega)]
theorem Adz {α:Type}: ∀(l:List α) (j:Nat) (ys:List α),j+ys.length≤l.length→(over l j ys).length=l.length
 |l,j,[],_=>by simp [over]
 | [],j,y::ys,h=>by simp at h
 |x::r,j+1,y::ys,h=>by simp only [over,List.length_cons];rw [Adz r j (y::ys) (by simp at h⊢;omega)]
 |x::r,0,y::ys,h=>by simp only [over,List.length_cons];rw [Adz r 0 ys (by simp at h⊢;omega)]
theorem AcX {l:List Nat} {i:Nat}:mem l i=true↔i∈l:=by
 induction l with
 |nil=>simp [mem]
 |cons x r ih=>
  unfold mem
  cases h:Nat.beq x i with
  |true=>have:=Nat.eq_of_beq_eq_true h;simp [this]
  |false=>have:=Nat.ne_of_beq_eq_false h;simp [ih];intro e;exact absurd e.symm this
theorem AbG: ∀ {vs:List V} {l:List T},allT vs=some l→vs=l.map .t
 | [],l,h=>by simp [allT] at h;subst h;rfl
 |v::r,l,h=>by
  cases v<;>simp only [allT] at h<;>try contradiction
  split at h
  ·rename_i l' hl'
   simp at h;subst h
   rw [AbG hl'];rfl
  ·contradiction
end Go.Eva
namespace Go.Eva
open Go.RowKit
structure Step (ι:Io) (F:Nat→Prop) (H:Heap) (w:World) (ι':Io) (F':Nat→Prop) (H':Heap) (w':World):Prop where
 os:w'.os=w.os
 tape:w'.tape=w.tape
 output:w'.output=w.output
 size:w.heap.size≤w'.heap.size
 same: ∀b,b<w.heap.size→ ¬Own ι H b→w'.heap[b]?=w.heap[b]?
 own: ∀b,b<w.heap.size→Own ι' H' b→Own ι H b
 fsub: ∀b,F b→F' b
 ffr: ∀b,b<w.heap.size→F' b→F b∨Own ι H b
 like: ∀id o,H[id]?=some o→ ∃o',H'[id]?=some o'∧Like ι ι' w w' id o o'
 live: ∀b,b<w.heap.size→Live ι' H' b→Live ι H b
theorem Like.refl (ι:Io) (w:World) (id:Nat) (o:Ob):Like ι ι w w id o o:=by
 unfold Like
 cases o with
 |dead=>exact .inl rfl
 |one s v r=>exact .inr ⟨rfl,v,r,rfl⟩
 |arr s xs sp r=>exact .inr ⟨rfl,fun _ _=>rfl,xs,sp,r,rfl,rfl⟩
 |vec vs=>exact .inr ⟨rfl,vs,rfl,rfl⟩
theorem Like.trans {ι ι1 ι2:Io} {w w1 w2:World} {id:Nat} {o o1 o2:Ob} (h:Like ι ι1 w w1 id o o1) (k:Like ι1 ι2 w1 w2 id o1 o2):Like ι ι2 w w2 id o o2:=by
 unfold Like at*
 rcases k with rfl|k
 ·exact .inl rfl
 rcases h with rfl|h
 ·simp only at k;exact .inl k
 cases o with
 |dead=>simp only at h;subst h;simp only at k;exact .inl k
 |one s v r=>
  obtain ⟨h1,v1,r1,rfl⟩:=h
  obtain ⟨k1,v2,r2,rfl⟩:=k
  exact .inr ⟨k1.trans h1,v2,r2,rfl⟩
 |arr s xs sp r=>
  obtain ⟨h1,h2,xs1,sp1,r1,rfl,h3⟩:=h
  obtain ⟨k1,k2,xs2,sp2,r2,rfl,k3⟩:=k
  exact .inr ⟨k1.trans h1,fun b hb=>(k2 b (h1.trans hb)).trans (h2 b hb),xs2,sp2,r2,rfl,k3.trans h3⟩
 |vec vs=>
  obtain ⟨h1,vs1,rfl,h3⟩:=h
  obtain ⟨k1,vs2,rfl,k3⟩:=k
  exact .inr ⟨k1.trans h1,vs2,rfl,k3.trans h3⟩
theorem Step.refl (ι:Io) (F:Nat→Prop) (H:Heap) (w:World):Step ι F H w ι F H w:=
 ⟨rfl,rfl,rfl,Nat.le_refl _,fun _ _ _=>rfl,fun _ _ h=>h,fun _ h=>h,fun _ _ h=> .inl h,fun _ o h=>⟨o,h,.refl ι w _ o⟩,fun _ _ h=>h⟩
theorem Step.trans {ι ι1 ι2:Io} {F F1 F2:Nat→Prop} {H H1 H2:Heap} {w w1 w2:World}
  (h:Step ι F H w ι1 F1 H1 w1) (k:Step ι1 F1 H1 w1 ι2 F2 H2 w2):Step ι F H w ι2 F2 H2 w2 where
 os:=k.os.trans h.os
 tape:=k.tape.trans h.tape
 output:=k.output.trans h.output
 size:=Nat.le_trans h.size k.size
 same b hb hn:=(k.same b (Nat.lt_of_lt_of_le hb h.size) (fun ho=>hn (h.own b hb ho))).trans (h.same b hb hn)
 own b hb ho:=h.own b hb (k.own b (Nat.lt_of_lt_of_le hb h.size) ho)
 fsub b hb:=k.fsub b (h.fsub b hb)
 ffr b hb hf:=by
  rcases k.ffr b (Nat.lt_of_lt_of_le hb h.size) hf with h1|h1
  ·exact h.ffr b hb h1
  ·exact .inr (h.own b hb h1)
 like id o ho:=by
  obtain ⟨o1,h1,h2⟩:=h.like id o ho
  obtain ⟨o2,k1,k2⟩:=k.like id o1 h1
  exact ⟨o2,k1,h2.trans k2⟩
 live b hb ho:=h.live b hb (k.live b (Nat.lt_of_lt_of_le hb h.size) ho)
theorem Step.fsame {ι ι':Io} {F F':Nat→Prop} {H H':Heap} {w w':World} (hg:Good ι F w H) (h:Step ι F H w ι' F' H' w'): ∀b,F b→w'.heap[b]?=w.heap[b]?:=
 fun b hb=>h.same b (hg.fin b hb) (fun ho=>hg.sep b ho hb)
theorem Step.vr {ι ι':Io} {F F':Nat→Prop} {H H':Heap} {w w':World} (hg:Good ι F w H) (h:Step ι F H w ι' F' H' w') {x:V} {v:Value} (hv:VR ι F w H x v):VR ι' F' w' H' x v:=
 hv.mono h.fsub (h.fsame hg) h.like
theorem Like.dead {ι ι':Io} {w w':World} {id:Nat} {o o':Ob} (h:Like ι ι' w w' id o o') (hd:o'.isDead=false):o.isDead=false∧ι' id=ι id:=by
 unfold Like at h
 rcases h with rfl|h
 ·simp [Ob.isDead] at hd
 ·cases o with
  |dead=>simp only at h;subst h;simp [Ob.isDead] at hd
  |one s v r=>exact ⟨rfl,h.1⟩
  |arr s xs sp r=>exact ⟨rfl,h.1⟩
  |vec vs=>exact ⟨rfl,h.1⟩
structure Ext (keep:Nat) (ι:Io) (F:Nat→Prop) (H:Heap) (w:World) (ι':Io) (F':Nat→Prop) (H':Heap) (w':World):Prop where
 os:w'.os=w.os
 tape:w'.tape=w.tape
 output:w'.output=w.output
 size:w.heap.size≤w'.heap.size
 same: ∀b,b<w.heap.size→ ¬Own ι H b→w'.heap[b]?=w.heap[b]?
 own: ∀b,b<w.heap.size→Own ι' H' b→Own ι H b
 fsub: ∀b,F b→F' b
 ffr: ∀b,b<w.heap.size→F' b→F b∨Own ι H b
 like: ∀id o,id<keep→H[id]?=some o→ ∃o',H'[id]?=some o'∧Like ι ι' w w' id o o'
 live: ∀b,b<w.heap.size→Live ι' H' b→Live ι H b
theorem Step.ext {ι ι':Io} {F F':Nat→Prop} {H H':Heap} {w w':World} (h:Step ι F H w ι' F' H' w') (keep:Nat):Ext keep ι F H w ι' F' H' w':=
 ⟨h.os,h.tape,h.output,h.size,h.same,h.own,h.fsub,h.ffr,fun id o _ ho=>h.like id o ho,h.live⟩
theorem Ext.step {ι ι':Io} {F F':Nat→Prop} {H H':Heap} {w w':World} {keep:Nat} (h:Ext keep ι F H w ι' F' H' w') (hk:H.length≤keep):Step ι F H w ι' F' H' w':=
 ⟨h.os,h.tape,h.output,h.size,h.same,h.own,h.fsub,h.ffr,fun id o ho=>h.like id o (Nat.lt_of_lt_of_le (List.getElem?_eq_some_iff.1 ho).1 hk) ho,h.live⟩
theorem Ext.trans {keep:Nat} {ι ι1 ι2:Io} {F F1 F2:Nat→Prop} {H H1 H2:Heap} {w w1 w2:World}
  (h:Ext keep ι F H w ι1 F1 H1 w1) (k:Ext keep ι1 F1 H1 w1 ι2 F2 H2 w2):Ext keep ι F H w ι2 F2 H2 w2 where
 os:=k.os.trans h.os
 tape:=k.tape.trans h.tape
 output:=k.output.trans h.output
 size:=Nat.le_trans h.size k.size
 same b hb hn:=(k.same b (Nat.lt_of_lt_of_le hb h.size) (fun ho=>hn (h.own b hb ho))).trans (h.same b hb hn)
 own b hb ho:=h.own b hb (k.own b (Nat.lt_of_lt_of_le hb h.size) ho)
 fsub b hb:=k.fsub b (h.fsub b hb)
 ffr b hb hf:=by
  rcases k.ffr b (Nat.lt_of_lt_of_le hb h.size) hf with h1|h1
  ·exact h.ffr b hb h1
  ·exact .inr (h.own b hb h1)
 like id o hid ho:=by
  obtain ⟨o1,h1,h2⟩:=h.like id o hid ho
  obtain ⟨o2,k1,k2⟩:=k.like id o1 hid h1
  exact ⟨o2,k1,h2.trans k2⟩
 live b hb ho:=h.live b hb (k.live b (Nat.lt_of_lt_of_le hb h.size) ho)
theorem CellsR.mono {F F':Nat→Prop} {w w':World} (hF: ∀b,F b→F' b) (hw: ∀b,F b→w'.heap[b]?=w.heap[b]?) {b sz:Nat} {xs:List T} (hb:w'.heap[b]?=w.heap[b]?)
  (h:CellsR F w b sz xs):CellsR F' w' b sz xs:=by
 obtain ⟨c,h1,h2,h3⟩:=h
 exact ⟨c,fun i j hi hj=>by rw [Agj hb];exact h1 i j hi hj,h2,fun i j x t hx hn ht=>(h3 i j x t hx hn ht).mono hF hw⟩
theorem ObR.mono {ι ι':Io} {F F':Nat→Prop} {w w':World} {H H':Heap} (hF: ∀b,F b→F' b) (hw: ∀b,F b→w'.heap[b]?=w.heap[b]?)
  (hl: ∀id o,H[id]?=some o→ ∃o',H'[id]?=some o'∧Like ι ι' w w' id o o') {id:Nat} {o:Ob} (hi:o.isDead=false→ι' id=ι id) (hb:o.isDead=false→ ∀b,ι id=some b→w'.heap[b]?=w.heap[b]?)
  (h:ObR ι F w H id o):ObR ι' F' w' H' id o:=by
 cases o with
 |dead=>trivial
 |one s v r=>
  obtain ⟨h1,h2,b,val,e,h3,h4,h5,h6,h7⟩:=h
  exact ⟨h1,h2,b,val,e,(hi rfl).trans h3,by rw [hb rfl b h3];exact h4,h5.mono hF hw hl,h6,h7⟩
 |arr s xs sp r=>
  obtain ⟨h0,h⟩:=h
  refine ⟨h0,?_⟩
  rcases h with ⟨h1,h2,h3⟩|⟨b,cs,e,h1,h2,h3,h4,h5,h6,h7⟩
  ·exact .inl ⟨(hi rfl).trans h1,h2,h3⟩
  ·exact .inr ⟨b,cs,e,(hi rfl).trans h1,by rw [hb rfl b h1];exact h2,h3,h4,h5,h6,h7.mono hF hw (hb rfl b h1)⟩
 |vec vs=>
  obtain ⟨b,cs,e,h1,h2,h3,h4,h5⟩:=h
  exact ⟨b,cs,e,(hi rfl).trans h1,by rw [hb rfl b h1];exact h2,h3,h4,fun i v c k1 k2=>⟨(h5 i v c k1 k2).1.mono hF hw hl,(h5 i v c k1 k2).2⟩⟩
def upd (ι:Io) (n:Nat) (b:Option Nat):Io:=fun i=>if i=n then b else ι i
theorem Aay {w:World} {o:Obj} {b:Nat} (hb:b<w.heap.size):(w.alloc o).heap[b]?=w.heap[b]?:=Below.heap_alloc w o b hb
theorem AaL {w:World} {o:Obj}:(w.alloc o).heap[w.heap.size]?=some o:=by
 show (w.heap.push o)[w.heap.size]?=_
 simp
theorem Adx {ι:Io} {w:World} {H:Heap} {ob:Ob} {o:Obj} {b:Option Nat} (hg: ∀id o b,H[id]?=some o→o.isDead=false→ι id=some b→b<w.heap.size):
  ∀id o',H[id]?=some o'→ ∃o'',(H++ [ob])[id]?=some o''∧Like ι (upd ι H.length b) w (w.alloc o) id o' o'':=by
 intro id o' h
 have hid:=(List.getElem?_eq_some_iff.1 h).1
 refine ⟨o',by rw [List.getElem?_append_left hid];exact h,?_⟩
 have hι:upd ι H.length b id=ι id:=by unfold upd;rw [if_neg (by omega)]
 unfold Like
 cases o' with
 |dead=>exact .inl rfl
 |one s v r=>exact .inr ⟨hι,v,r,rfl⟩
 |arr s xs sp r=>exact .inr ⟨hι,fun b hb=>AfK (Aay (hg id _ b h rfl hb)),xs,sp,r,rfl,rfl⟩
 |vec vs=>exact .inr ⟨hι,vs,rfl,rfl⟩
theorem Good.lt {ι:Io} {F:Nat→Prop} {w:World} {H:Heap} (hg:Good ι F w H): ∀id o b,H[id]?=some o→o.isDead=false→ι id=some b→b<w.heap.size:=by
 intro id o b h hd hb
 have ho:=hg.obj id o h
 have key: ∀cs e,w.heap[b]?=some (.cells cs e (0,0))→b<w.heap.size:=fun cs e hc=>(Array.getElem?_eq_some_iff.1 hc).1
 cases o with
 |dead=>simp [Ob.isDead] at hd
 |one s v r=>
  obtain ⟨h1,h2,b',val,e,h3,h4,_⟩:=ho
  rw [hb] at h3
  obtain rfl:=Option.some.inj h3
  exact key _ _ h4
 |arr s xs sp r=>
  rcases ho.2 with ⟨h1,_⟩|⟨b',cs,e,h1,h2,_⟩
  ·rw [hb] at h1;contradiction
  ·rw [hb] at h1
   obtain rfl:=Option.some.inj h1
   exact key _ _ h2
 |vec vs=>
  obtain ⟨b',cs,e,h1,h2,_⟩:=ho
  rw [hb] at h1
  obtain rfl:=Option.some.inj h1
  exact key _ _ h2
theorem Aa2 {H:Heap} {ob o:Ob} {id:Nat} (h:(H++ [ob])[id]?=some o):H[id]?=some o∨(id=H.length∧o=ob):=by
 by_cases hid:id<H.length
 ·rw [List.getElem?_append_left hid] at h;exact .inl h
 ·rw [List.getElem?_append_right (by omega)] at h
  have:id-H.length=0:=by
   rcases Nat.eq_zero_or_pos (id-H.length) with h0|h0
   ·exact h0
   ·rw [List.getElem?_eq_none (by simp;omega)] at h;contradiction
  rw [this] at h
  simp at h
  exact .inr ⟨by omega,h.symm⟩
theorem Ac6 {ι:Io} {F:Nat→Prop} {w:World} {H:Heap} (hg:Good ι F w H) (ob:Ob) (cs:Array Value) (e:TypeId) (hro:ob.ro=false)
  (hob:ObR (upd ι H.length (some w.heap.size)) F (w.alloc (.cells cs e (0,0))) (H++ [ob]) H.length ob):
  Good (upd ι H.length (some w.heap.size)) F (w.alloc (.cells cs e (0,0))) (H++ [ob])∧
  Step ι F H w (upd ι H.length (some w.heap.size)) F (H++ [ob]) (w.alloc (.cells cs e (0,0))):=by
 have hl:=Adx (ob:=ob) (o:= .cells cs e (0,0)) (b:=some w.heap.size) hg.lt
 have hfs: ∀b,F b→(w.alloc (.cells cs e (0,0))).heap[b]?=w.heap[b]?:=fun b hb=>Aay (hg.fin b hb)
 have old: ∀id,id<H.length→upd ι H.length (some w.heap.size) id=ι id:=fun id h=>by unfold upd;rw [if_neg (by omega)]
 have new:upd ι H.length (some w.heap.size) H.length=some w.heap.size:=by unfold upd;rw [if_pos rfl]
 have hown: ∀b,b<w.heap.size→Own (upd ι H.length (some w.heap.size)) (H++ [ob]) b→Own ι H b:=by
  rintro b hb ⟨id,o,h1,h2,h3⟩
  rcases Aa2 h1 with h|⟨rfl,rfl⟩
  ·have hid:=(List.getElem?_eq_some_iff.1 h).1
   rw [old id hid] at h3
   exact ⟨id,o,h,h2,h3⟩
  ·rw [new] at h3
   have:=Option.some.inj h3
   omega
 have hlive: ∀b,b<w.heap.size→Live (upd ι H.length (some w.heap.size)) (H++ [ob]) b→Live ι H b:=by
  rintro b hb ⟨id,o,h1,h2,h3⟩
  rcases Aa2 h1 with h|⟨rfl,rfl⟩
  ·have hid:=(List.getElem?_eq_some_iff.1 h).1
   rw [old id hid] at h3
   exact ⟨id,o,h,h2,h3⟩
  ·rw [new] at h3
   have:=Option.some.inj h3
   omega
 refine ⟨⟨fun b hb=>by have:=hg.fin b hb;simp;omega,?_,?_,?_,?_⟩,⟨rfl,rfl,rfl,by simp,fun b hb _=>Aay hb,hown,fun _ h=>h,fun _ _ h=> .inl h,hl,hlive⟩⟩
 ·intro id o h
  rcases Aa2 h with h|⟨rfl,rfl⟩
  ·have hid:=(List.getElem?_eq_some_iff.1 h).1
   exact (hg.obj id o h).mono (fun _ h=>h) hfs hl (fun _=>old id hid) (fun hd b hb=>Aay (hg.lt id o b h hd hb))
  ·exact hob
 ·intro i j oi oj b hi hj hdi hdj bi bj
  rcases Aa2 hi with h|⟨rfl,rfl⟩<;>rcases Aa2 hj with h'|⟨rfl,rfl⟩
  ·have h1:=(List.getElem?_eq_some_iff.1 h).1
   have h2:=(List.getElem?_eq_some_iff.1 h').1
   rw [old _ h1] at bi;rw [old _ h2] at bj
   exact hg.inj i j oi oj b h h' hdi hdj bi bj
  ·have h1:=(List.getElem?_eq_some_iff.1 h).1
   rw [old _ h1] at bi;rw [new] at bj
   have:=hg.lt i oi b h hdi bi
   have:=Option.some.inj bj
   omega
  ·have h2:=(List.getElem?_eq_some_iff.1 h').1
   rw [old _ h2] at bj;rw [new] at bi
   have:=hg.lt j oj b h' hdj bj
   have:=Option.some.inj bi
   omega
  ·rfl
 ·intro b ho hf
  by_cases hb:b<w.heap.size
  ·exact hg.sep b (hown b hb ho) hf
  ·exact absurd (hg.fin b hf) hb
 ·intro id o b h hd hr hb
  rcases Aa2 h with h|⟨rfl,rfl⟩
  ·have hid:=(List.getElem?_eq_some_iff.1 h).1
   rw [old id hid] at hb
   exact hg.rof id o b h hd hr hb
  ·rw [hro] at hr;contradiction
theorem AdV {ι:Io} {F:Nat→Prop} {w:World} {H:Heap} (hg:Good ι F w H) (s:Nat) (hs:0<s):
  Good (upd ι H.length none) F w (H++ [.arr s [] none false])∧Step ι F H w (upd ι H.length none) F (H++ [.arr s [] none false]) w:=by
 have old: ∀id,id<H.length→upd ι H.length none id=ι id:=fun id h=>by unfold upd;rw [if_neg (by omega)]
 have new:upd ι H.length none H.length=none:=by unfold upd;rw [if_pos rfl]
 have hl: ∀id o',H[id]?=some o'→ ∃o'',(H++ [Ob.arr s [] none false])[id]?=some o''∧Like ι (upd ι H.length none) w w id o' o'':=by
  intro id o' h
  have hid:=(List.getElem?_eq_some_iff.1 h).1
  refine ⟨o',by rw [List.getElem?_append_left hid];exact h,?_⟩
  unfold Like
  cases o' with
  |dead=>exact .inl rfl
  |one s v r=>exact .inr ⟨old id hid,v,r,rfl⟩
  |arr s xs sp r=>exact .inr ⟨old id hid,fun b _=>rfl,xs,sp,r,rfl,rfl⟩
  |vec vs=>exact .inr ⟨old id hid,vs,rfl,rfl⟩
 have hown: ∀b,Own (upd ι H.length none) (H++ [Ob.arr s [] none false]) b→Own ι H b:=by
  rintro b ⟨id,o,h1,h2,h3⟩
  rcases Aa2 h1 with h|⟨rfl,rfl⟩
  ·have hid:=(List.getElem?_eq_some_iff.1 h).1
   rw [old id hid] at h3
   exact ⟨id,o,h,h2,h3⟩
  ·rw [new] at h3;contradiction
 have hlive: ∀b,Live (upd ι H.length none) (H++ [Ob.arr s [] none false]) b→Live ι H b:=by
  rintro b ⟨id,o,h1,h2,h3⟩
  rcases Aa2 h1 with h|⟨rfl,rfl⟩
  ·have hid:=(List.getElem?_eq_some_iff.1 h).1
   rw [old id hid] at h3
   exact ⟨id,o,h,h2,h3⟩
  ·rw [new] at h3;contradiction
 refine ⟨⟨hg.fin,?_,?_,fun b ho hf=>hg.sep b (hown b ho) hf,?_⟩,⟨rfl,rfl,rfl,Nat.le_refl _,fun _ _ _=>rfl,fun b _ h=>hown b h,fun _ h=>h,fun _ _ h=> .inl h,hl,fun b _ h=>hlive b h⟩⟩
 ·intro id o h
  rcases Aa2 h with h|⟨rfl,rfl⟩
  ·have hid:=(List.getElem?_eq_some_iff.1 h).1
   exact (hg.obj id o h).mono (fun _ h=>h) (fun _ _=>rfl) hl (fun _=>old id hid) (fun _ _ _=>rfl)
  ·exact ⟨hs,.inl ⟨new,rfl,by simp⟩⟩
 ·intro i j oi oj b hi hj hdi hdj bi bj
  rcases Aa2 hi with h|⟨rfl,rfl⟩<;>rcases Aa2 hj with h'|⟨rfl,rfl⟩
  ·have h1:=(List.getElem?_eq_some_iff.1 h).1
   have h2:=(List.getElem?_eq_some_iff.1 h').1
   rw [old _ h1] at bi;rw [old _ h2] at bj
   exact hg.inj i j oi oj b h h' hdi hdj bi bj
  ·rw [new] at bj;contradiction
  ·rw [new] at bi;contradiction
  ·rfl
 ·intro id o b h hd hr hb
  rcases Aa2 h with h|⟨rfl,rfl⟩
  ·have hid:=(List.getElem?_eq_some_iff.1 h).1
   rw [old id hid] at hb
   exact hg.rof id o b h hd hr hb
  ·simp [Ob.ro] at hr
theorem Ahh {ι:Io} {F:Nat→Prop} {w w':World} {H:Heap} (hg:Good ι F w H) {id:Nat} {o o':Ob} (ho:H[id]?=some o)
  (hos:w'.os=w.os) (htape:w'.tape=w.tape) (hout:w'.output=w.output) (hsize:w'.heap.size=w.heap.size)
  (hother: ∀b,(o.ro=true∨ι id≠some b)→w'.heap[b]?=w.heap[b]?) (hlike:Like ι ι w w' id o o') (hro:o'.isDead=false→o'.ro=o.ro)
  (hob:(∀i oi,H[i]?=some oi→ ∃o'',(H.set id o')[i]?=some o''∧Like ι ι w w' i oi o'')→ObR ι F w' (H.set id o') id o'):
  Good ι F w' (H.set id o')∧Step ι F H w ι F (H.set id o') w':=by
 have hid:=(List.getElem?_eq_some_iff.1 ho).1
 have hblk: ∀i oi b,i≠id→H[i]?=some oi→oi.isDead=false→ι i=some b→w'.heap[b]?=w.heap[b]?:=by
  intro i oi b hne hi hd hb
  refine hother b ?_
  cases hod:o.isDead with
  |true=>left;cases o<;>simp_all [Ob.isDead,Ob.ro]
  |false=>exact .inr (fun e=>hne (hg.inj i id oi o b hi ho hd hod hb e))
 have hl: ∀i oi,H[i]?=some oi→ ∃o'',(H.set id o')[i]?=some o''∧Like ι ι w w' i oi o'':=by
  intro i oi hi
  by_cases e:i=id
  ·subst e
   rw [ho] at hi
   obtain rfl:=Option.some.inj hi
   exact ⟨o',by simp [hid],hlike⟩
  ·refine ⟨oi,by rw [List.getElem?_set_ne (Ne.symm e)];exact hi,?_⟩
   unfold Like
   cases oi with
   |dead=>exact .inl rfl
   |one s v r=>exact .inr ⟨rfl,v,r,rfl⟩
   |arr s xs sp r=>exact .inr ⟨rfl,fun b hb=>AfK (hblk i _ b e hi rfl hb),xs,sp,r,rfl,rfl⟩
   |vec vs=>exact .inr ⟨rfl,vs,rfl,rfl⟩
 have hown: ∀b,Own ι (H.set id o') b→Own ι H b:=by
  rintro b ⟨i,oi,h1,h2,h3⟩
  by_cases e:i=id
  ·subst e
   simp [hid] at h1
   subst h1
   exact ⟨i,o,ho,(hro (by cases o'<;>simp_all [Ob.ro,Ob.isDead])).symm.trans h2,h3⟩
  ·rw [List.getElem?_set_ne (Ne.symm e)] at h1
   exact ⟨i,oi,h1,h2,h3⟩
 have hlive: ∀b,Live ι (H.set id o') b→Live ι H b:=by
  rintro b ⟨i,oi,h1,h2,h3⟩
  by_cases e:i=id
  ·subst e
   simp [hid] at h1
   subst h1
   exact ⟨i,o,ho,(hlike.dead h2).1,h3⟩
  ·rw [List.getElem?_set_ne (Ne.symm e)] at h1
   exact ⟨i,oi,h1,h2,h3⟩
 have hsame: ∀b,b<w.heap.size→ ¬Own ι H b→w'.heap[b]?=w.heap[b]?:=by
  intro b _ hn
  refine hother b ?_
  cases hr:o.ro with
  |true=>exact .inl rfl
  |false=>exact .inr (fun e=>hn ⟨id,o,ho,hr,e⟩)
 have hfs: ∀b,F b→w'.heap[b]?=w.heap[b]?:=fun b hb=>hsame b (hg.fin b hb) (fun h=>hg.sep b h hb)
 refine ⟨⟨fun b hb=>by rw [hsize];exact hg.fin b hb,?_,?_,fun b h hf=>hg.sep b (hown b h) hf,?_⟩,
  ⟨hos,htape,hout,by omega,hsame,fun b _ h=>hown b h,fun _ h=>h,fun _ _ h=> .inl h,hl,fun b _ h=>hlive b h⟩⟩
 ·intro i oi hi
  by_cases e:i=id
  ·subst e
   simp [hid] at hi
   subst hi
   exact hob hl
  ·rw [List.getElem?_set_ne (Ne.symm e)] at hi
   exact (hg.obj i oi hi).mono (fun _ h=>h) hfs hl (fun _=>rfl) (fun hd b hb=>hblk i oi b e hi hd hb)
 ·have hdd:o'.isDead=false→o.isDead=false:=fun h=>(hlike.dead h).1
  have back: ∀(i:Nat) (oi:Ob),(H.set id o')[i]?=some oi→oi.isDead=false→ ∃oi':Ob,H[i]?=some oi'∧oi'.isDead=false:=by
   intro i oi hi hd
   by_cases e:i=id
   ·subst e
    simp [hid] at hi
    subst hi
    exact ⟨o,ho,hdd hd⟩
   ·rw [List.getElem?_set_ne (Ne.symm e)] at hi
    exact ⟨oi,hi,hd⟩
  intro i j oi oj b hi hj hdi hdj bi bj
  obtain ⟨oi',h1,h2⟩:=back i oi hi hdi
  obtain ⟨oj',h3,h4⟩:=back j oj hj hdj
  exact hg.inj i j oi' oj' b h1 h3 h2 h4 bi bj
 ·intro i oi b hi hd hr hb
  by_cases e:i=id
  ·subst e
   simp [hid] at hi
   subst hi
   exact hg.rof i o b ho (hlike.dead hd).1 ((hro hd).symm.trans hr) hb
  ·rw [List.getElem?_set_ne (Ne.symm e)] at hi
   exact hg.rof i oi b hi hd hr hb
theorem Ags {ι:Io} {F:Nat→Prop} {w:World} {H:Heap} (hg:Good ι F w H):Good ι F w.drew H∧Step ι F H w ι F H w.drew:=by
 have hl: ∀i oi,H[i]?=some oi→ ∃o'',H[i]?=some o''∧Like ι ι w w.drew i oi o'':=fun i oi hi=>⟨oi,hi,Like.refl ι w i oi⟩
 exact ⟨⟨hg.fin,fun id o h=>ObR.mono (w:=w) (w':=w.drew) (fun _ h=>h) (fun _ _=>rfl) hl (fun _=>rfl) (fun _ _ _=>rfl) (hg.obj id o h),hg.inj,hg.sep,hg.rof⟩,
  ⟨rfl,rfl,rfl,Nat.le_refl _,fun _ _ _=>rfl,fun _ _ h=>h,fun _ h=>h,fun _ _ h=> .inl h,hl,fun _ _ h=>h⟩⟩
theorem Aix {ι:Io} {F:Nat→Prop} {w:World} {H:Heap} (hg:Good ι F w H) (o:Obj):
  Good ι (fun b=>F b∨b=w.heap.size) (w.alloc o) H∧Step ι F H w ι (fun b=>F b∨b=w.heap.size) H (w.alloc o):=by
 have hl: ∀i oi,H[i]?=some oi→ ∃o'',H[i]?=some o''∧Like ι ι w (w.alloc o) i oi o'':=by
  intro i oi hi
  refine ⟨oi,hi,?_⟩
  unfold Like
  cases oi with
  |dead=>exact .inl rfl
  |one s v r=>exact .inr ⟨rfl,v,r,rfl⟩
  |arr s xs sp r=>exact .inr ⟨rfl,fun b hb=>AfK (Aay (hg.lt i _ b hi rfl hb)),xs,sp,r,rfl,rfl⟩
  |vec vs=>exact .inr ⟨rfl,vs,rfl,rfl⟩
 have hlt: ∀b,Own ι H b→b<w.heap.size:=by
  rintro b ⟨id,ob,h1,h2,h3⟩
  exact hg.lt id ob b h1 (by cases ob<;>simp_all [Ob.ro,Ob.isDead]) h3
 refine ⟨⟨?_,fun id ob h=>(hg.obj id ob h).mono (fun _ h=> .inl h) (fun b hb=>Aay (hg.fin b hb)) hl (fun _=>rfl) (fun hd b hb=>Aay (hg.lt id ob b h hd hb)),hg.inj,?_,fun id ob b h hd hr hb=> .inl (hg.rof id ob b h hd hr hb)⟩,
  ⟨rfl,rfl,rfl,by simp,fun b hb _=>Aay hb,fun _ _ h=>h,fun _ h=> .inl h,?_,hl,fun _ _ h=>h⟩⟩
 ·rintro b (h|rfl)
  ·have:=hg.fin b h;simp;omega
  ·simp
 ·rintro b ho (h|rfl)
  ·exact hg.sep b ho h
  ·exact absurd (hlt _ ho) (by omega)
 ·rintro b hb (h|rfl)
  ·exact .inl h
  ·omega
def Fl (ι:Io) (H:Heap) (l:List Nat) (b:Nat):Prop:= ∃i o,i∈l∧H[i]?=some o∧o.isDead=false∧ι i=some b
theorem Adp: ∀(H:Heap) (n:Nat) (l:List Nat) (i:Nat),(roAll n l H)[i]?=(H[i]?).map fun o=>if n+i∈l then roOb o else o
 | [],n,l,i=>by simp [roAll]
 |o::r,n,l,i=>by
  have key:roAll n l (o::r)=(if n∈l then roOb o else o)::roAll (n+1) l r:=by
   have e:roAll n l (o::r)=match mem l n with|true=>roOb o::roAll (n+1) l r|false=>o::roAll (n+1) l r:=rfl
   rw [e]
   by_cases h:n∈l
   ·rw [if_pos h,AcX.2 h]
   ·have:mem l n=false:=by
     cases hm:mem l n with
     |true=>exact absurd (AcX.1 hm) h
     |false=>rfl
    rw [if_neg h,this]
  rw [key]
  cases i with
  |zero=>simp
  |succ i=>
   simp only [List.getElem?_cons_succ,Adp r (n+1) l i]
   congr 1
   funext o
   rw [show n+1+i=n+(i+1) by omega]
theorem AiV {ι:Io} {F:Nat→Prop} {w:World} {H:Heap} (hg:Good ι F w H) (l:List Nat):
  Good ι (fun b=>F b∨Fl ι H l b) w (roAll 0 l H)∧Step ι F H w ι (fun b=>F b∨Fl ι H l b) (roAll 0 l H) w:=by
 have get: ∀i o',(roAll 0 l H)[i]?=some o'→ ∃o,H[i]?=some o∧o'=if i∈l then roOb o else o:=by
  intro i o' h
  rw [Adp] at h
  simp at h
  obtain ⟨o,h1,h2⟩:=h
  exact ⟨o,h1,h2.symm⟩
 have dead: ∀o:Ob,(roOb o).isDead=false→o.isDead=false:=fun o=>by cases o<;>simp [roOb,Ob.isDead]
 have hl: ∀i oi,H[i]?=some oi→ ∃o'',(roAll 0 l H)[i]?=some o''∧Like ι ι w w i oi o'':=by
  intro i oi hi
  refine ⟨if i∈l then roOb oi else oi,by rw [Adp,hi];simp,?_⟩
  unfold Like
  cases oi with
  |dead=>left;split<;>rfl
  |one s v r=>right;refine ⟨rfl,v,?_⟩;split<;>exact ⟨_,rfl⟩
  |arr s xs sp r=>right;refine ⟨rfl,fun _ _=>rfl,xs,sp,?_⟩;split<;>exact ⟨_,rfl,rfl⟩
  |vec vs=>
   by_cases hi:i∈l
   ·rw [if_pos hi];exact .inl rfl
   ·rw [if_neg hi];exact .inr ⟨rfl,vs,rfl,rfl⟩
 have hown: ∀b,Own ι (roAll 0 l H) b→ ∃id o,H[id]?=some o∧o.ro=false∧ι id=some b∧id∉l:=by
  rintro b ⟨i,o',h1,h2,h3⟩
  obtain ⟨o,h4,h5⟩:=get i o' h1
  split at h5
  ·subst h5;cases o<;>simp [roOb,Ob.ro] at h2
  ·subst h5;exact ⟨i,_,h4,h2,h3,by assumption⟩
 have hown': ∀b,Own ι (roAll 0 l H) b→Own ι H b:=fun b h=>by obtain ⟨i,o,h1,h2,h3,_⟩:=hown b h;exact ⟨i,o,h1,h2,h3⟩
 have hlive: ∀b,Live ι (roAll 0 l H) b→Live ι H b:=by
  rintro b ⟨i,o',h1,h2,h3⟩
  obtain ⟨o,h4,h5⟩:=get i o' h1
  exact ⟨i,o,h4,by subst h5;split at h2;exact dead _ h2;exact h2,h3⟩
 refine ⟨⟨?_,?_,?_,?_,?_⟩,⟨rfl,rfl,rfl,Nat.le_refl _,fun _ _ _=>rfl,fun b _ h=>hown' b h,fun _ h=> .inl h,?_,hl,fun b _ h=>hlive b h⟩⟩
 ·rintro b (h|⟨i,o,_,h1,h2,h3⟩)
  ·exact hg.fin b h
  ·exact hg.lt i o b h1 h2 h3
 ·intro id o' h
  obtain ⟨o,h1,h2⟩:=get id o' h
  have:=(hg.obj id o h1).mono (F':=fun b=>F b∨Fl ι H l b) (w':=w) (fun _ h=> .inl h) (fun _ _=>rfl) hl (fun _=>rfl) (fun _ _ _=>rfl)
  subst h2
  split
  ·cases o<;>first|exact this|trivial
  ·exact this
 ·intro i j oi oj b hi hj hdi hdj bi bj
  obtain ⟨oi',h1,h2⟩:=get i oi hi
  obtain ⟨oj',h3,h4⟩:=get j oj hj
  refine hg.inj i j oi' oj' b h1 h3 ?_ ?_ bi bj
  ·subst h2;split at hdi;exact dead _ hdi;exact hdi
  ·subst h4;split at hdj;exact dead _ hdj;exact hdj
 ·rintro b ho (hf|⟨i,o,hi,h1,h2,h3⟩)
  ·exact hg.sep b (hown' b ho) hf
  ·obtain ⟨j,oj,k1,k2,k3,k4⟩:=hown b ho
   have:i=j:=hg.inj i j o oj b h1 k1 h2 (by cases oj<;>simp_all [Ob.ro,Ob.isDead]) h3 k3
   subst this
   exact k4 hi
 ·intro id o' b h hd hr hb
  obtain ⟨o,h1,h2⟩:=get id o' h
  split at h2
  ·rename_i hm
   subst h2
   exact .inr ⟨id,o,hm,h1,dead _ hd,hb⟩
  ·subst h2
   exact .inl (hg.rof id _ b h1 hd hr hb)
 ·rintro b _ (hf|⟨i,o,hi,h1,h2,h3⟩)
  ·exact .inl hf
  ·cases hr:o.ro with
   |true=>exact .inl (hg.rof i o b h1 h2 hr h3)
   |false=>exact .inr ⟨i,o,h1,hr,h3⟩
end Go.Eva
namespace Go.Eva
open Go.RowKit
theorem TR.int_inv {F:Nat→Prop} {w:World} {k:IntKind} {n:Int} {v:Value} (h:TR F w (.int k n) v):v= .int k n:=by cases h;rfl
theorem TR.bool_inv {F:Nat→Prop} {w:World} {b:Bool} {v:Value} (h:TR F w (.bool b) v):v= .bool b:=by cases h;rfl
theorem TR.str_inv {F:Nat→Prop} {w:World} {s:ByteArray} {v:Value} (h:TR F w (.str s) v):v= .string s:=by cases h;rfl
section
variable {ι:Io} {F:Nat→Prop} {w:World} {H:Heap}
theorem VR.t_inv {x:T} {v:Value} (h:VR ι F w H (.t x) v):TR F w x v:=by cases h;assumption
theorem AgH: ∀ {v:Value} {x:T},constT v=some x→TR F w x v:=by
 intro v x h
 unfold constT at h
 split at h<;>simp at h<;>subst h
 ·exact .int _ _
 ·exact .bool _
 ·exact .str _
 ·exact .nilp
 ·exact .nilf
 ·exact .nilm
theorem AfO: ∀ {vs:List Value} {l:List T},constTs vs=some l→vs.length=l.length∧ ∀(i:Nat) x c,l[i]?=some x→vs[i]?=some c→TR F w x c∧c.oneCell'=true
 | [],l,h=>by simp [constTs] at h;subst h;simp
 |v::r,l,h=>by
  simp only [constTs] at h
  split at h
  ·rename_i x l' hx hl
   simp at h;subst h
   obtain ⟨h1,h2⟩:=AfO hl
   refine ⟨by simp [h1],?_⟩
   intro i y c hy hc
   cases i with
   |zero=>
    simp at hy hc;subst hy;subst hc
    refine ⟨AgH hx,?_⟩
    unfold constT at hx
    split at hx<;>simp_all [Value.oneCell']
   |succ i=>simp at hy hc;exact h2 i y c hy hc
  ·contradiction
theorem AiC (v:Value):VR ι F w H (constV v) v:=by
 unfold constV
 split
 ·exact .nil
 ·rename_i cs
  split
  ·rename_i l hl
   obtain ⟨h1,h2⟩:=AfO (F:=F) (w:=w) hl
   refine .t _ _ (.agg _ _ (by simpa using h1.symm) ?_ ?_)
   ·intro i c hc
    have hlt:i<cs.size:=(Array.getElem?_eq_some_iff.1 hc).1
    have: ∃x,l[i]?=some x:=⟨_,List.getElem?_eq_getElem (by rw [←h1];simpa using hlt)⟩
    obtain ⟨x,hx⟩:=this
    exact (h2 i x c hx (by simpa using hc)).2
   ·intro i x c hx hc
    exact (h2 i x c hx (by simpa using hc)).1
  ·exact .t _ _ (.any _)
 ·split
  ·rename_i x hx
   exact .t _ _ (AgH hx)
  ·exact .t _ _ (.any _)
def Sim (ι:Io) (F:Nat→Prop) (w:World) (H:Heap) (e:Env) (a:Act):Prop:= ∀t,VR ι F w H (look e t) (a.tmps.getD t undef)
theorem Aal {e:Env} {a:Act} (h:Sim ι F w H e a) (x:Operand):VR ι F w H (evalO e x) (a.eval x):=by
 cases x with
 |tmp t=>exact h t
 |const v=>exact AiC v
 |global g=>exact .t _ _ (.any _)
 |func f=>exact .t _ _ (.clo f [] #[] rfl (by simp))
variable {S:Task→(Res→Prop)→Prop}
theorem AbM {cx:Cx} {ty:Nat} {v:V} {val:Value} {R:V→Prop} (h:wpQ S (typed cx ty v) R) (hv:VR ι F w H v val): ∃v',R v'∧VR ι F w H v' val:=by
 unfold typed at h
 split at h
 ·split at h
  ·split at h
   ·have h1:=Abz (Aaa _ _ _ h)
    cases hv
    exact ⟨_,h1,.fit _ _ _ (.slN _ _ _)⟩
   ·exact h.elim
  ·exact h.elim
 ·exact ⟨v,Aat h,hv⟩
theorem Ae9 {cx:Cx} {e:Env} {a:Act} (hs:Sim ι F w H e a): ∀ {xs:List Operand} {ts:List Nat} {R:List V→Prop},wpQ S (args cx e xs ts) R→
  ∃vs,R vs∧vs.length=xs.length∧ ∀(i:Nat) v x,vs[i]?=some v→xs[i]?=some x→VR ι F w H v (a.eval x)
 | [],ts,R,h=>⟨[],by cases ts<;>exact h,rfl,by simp⟩
 |x::xs,[],R,h=>by
  have h1:=Aat (Aaa _ _ _ h)
  obtain ⟨vs,h2,h3,h4⟩:=Ae9 hs (Aaa _ _ _ h1)
  refine ⟨_::vs,h2,by simp [h3],?_⟩
  intro i v y hv hy
  cases i with
  |zero=>simp at hv hy;subst hv;subst hy;exact Aal hs x
  |succ i=>simp at hv hy;exact h4 i v y hv hy
 |x::xs,t::ts,R,h=>by
  obtain ⟨v',h1,hv'⟩:=AbM (Aaa _ _ _ h) (Aal hs x)
  obtain ⟨vs,h2,h3,h4⟩:=Ae9 hs (Aaa _ _ _ h1)
  refine ⟨_::vs,h2,by simp [h3],?_⟩
  intro i v y hv hy
  cases i with
  |zero=>simp at hv hy;subst hv;subst hy;exact hv'
  |succ i=>simp at hv hy;exact h4 i v y hv hy
end
theorem AaB {P:Program} {o:Oper} {a:Act} {w w':World} {next:Act→World→Prop} {Q:Exit→Act→World→Prop} {val:Value}
  (h:(execOp a.eval o).run P w= .ok (.value val) w') (hn:next (a.put o.dst val) w'):o.wp P a w next Q:=by
 unfold Oper.wp;rw [h];exact hn
def OpPost (R:V×Heap→Prop) (o:Oper) (ι:Io) (F:Nat→Prop) (H:Heap) (w:World) (a:Act) (a':Act) (w':World):Prop:=
 ∃v H' ι' F' val,R (v,H')∧a'=a.put o.dst val∧Good ι' F' w' H'∧Step ι F H w ι' F' H' w'∧VR ι' F' w' H' v val
section
variable {P:Program} {cx:Cx} {S:Task→(Res→Prop)→Prop} {o:Oper} {e:Env} {H:Heap} {a:Act} {w:World} {ι:Io} {F:Nat→Prop} {R:V×Heap→Prop} {Q:Exit→Act→World→Prop}
def Still (C:World→Prop) (P:Program) (R:V×Heap→Prop) (o:Oper) (ι:Io) (F:Nat→Prop) (H:Heap) (w:World) (a:Act):Prop:=
 ∃v H' ι' F' val,R (v,H')∧Good ι' F' w H'∧Step ι F H w ι' F' H' w∧VR ι' F' w H' v val∧ ∀w',C w'→(execOp a.eval o).run P w'= .ok (.value val) w'
theorem Still.wp {C:World→Prop} (h:Still C P R o ι F H w a) (hC:C w):o.wp P a w (OpPost R o ι F H w a) Q:=by
 obtain ⟨v,H',ι',F',val,h1,h2,h3,h4,h5⟩:=h
 exact AaB (h5 w hC) ⟨v,H',ι',F',val,h1,rfl,h2,h3,h4⟩
def Any (_:World):Prop:=True
theorem Aak (hg:Good ι F w H) {v:V} {val:Value} (hr:R (v,H)) (hv:VR ι F w H v val) (h: ∀w,(execOp a.eval o).run P w= .ok (.value val) w):Still Any P R o ι F H w a:=
 ⟨v,H,ι,F,val,hr,hg,.refl ι F H w,hv,fun w _=>h w⟩
theorem Agb (hg:Good ι F w H) (hs:Sim ι F w H e a) (x:Operand) (ho:o.op= .move x∨o.op= .assign x) (h:wpQ S ((typed cx o.type (evalO e x)).bind fun v=> .ret (v,H)) R):
  Still Any P R o ι F H w a:=by
 obtain ⟨v,h1,h2⟩:=AbM (Aaa _ _ _ h) (Aal hs x)
 refine Aak hg h1 h2 fun w=> ?_
 rcases ho with ho|ho<;>(unfold execOp;rw [ho];rfl)
theorem Ajq (hg:Good ι F w H) (hs:Sim ι F w H e a) (c x y:Operand) (ho:o.op= .pick c x y) (h:wpQ S (opQ cx o e H) R):Still Any P R o ι F H w a:=by
 unfold opQ at h
 rw [ho] at h
 simp only at h
 split at h
 ·rename_i b hb
  have hc:=Aal hs c
  rw [hb] at hc
  have hc:=hc.t_inv.bool_inv
  cases b with
  |true=>
   have h1:=Aat (Aaa _ _ _ h)
   refine Aak hg h1 (Aal hs x) fun w=> ?_
   simp [execOp,ho,hc,asBool]
  |false=>
   have h1:=Aat (Aaa _ _ _ h)
   refine Aak hg h1 (Aal hs y) fun w=> ?_
   simp [execOp,ho,hc,asBool]
 ·exact h.elim
theorem AdM (op:BinOp) (t:TypeId) (x y:Operand) {u v:Value} (h: ∀c d,¬(u= .agg c∧v= .agg d)) (h': ¬(u= .nilIface∧v= .nilIface)):(eqGuard op t x y u v).run P w= .ok () w:=by
 unfold eqGuard
 cases u<;>cases v<;>simp_all
theorem op_un (hg:Good ι F w H) (hs:Sim ι F w H e a) (op:UnOp) (t:Nat) (x:Operand) (ho:o.op= .unOp op t x) (h:wpQ S (opQ cx o e H) R):Still Any P R o ι F H w a:=by
 unfold opQ at h
 rw [ho] at h
 simp only at h
 have h1:=Aaa _ _ _ h
 have hx:=Aal hs x
 unfold unV at h1
 split at h1
 ·rename_i k n hv
  rw [hv] at hx
  have hx:=hx.t_inv.int_inv
  refine Aak hg h1 (.t _ _ (.int _ _)) fun w=> ?_
  simp [execOp,ho,hx,Op.unary,Op.intArith]
 ·rename_i k n hv
  rw [hv] at hx
  have hx:=hx.t_inv.int_inv
  refine Aak hg h1 (.t _ _ (.int _ _)) fun w=> ?_
  simp [execOp,ho,hx,Op.unary,Op.intBits]
 ·rename_i b hv
  rw [hv] at hx
  have hx:=hx.t_inv.bool_inv
  refine Aak hg h1 (.t _ _ (.bool _)) fun w=> ?_
  simp [execOp,ho,hx,Op.unary]
 ·exact h1.elim
theorem AeI (hg:Good ι F w H) (hs:Sim ι F w H e a) (x:Operand) (ho:o.op= .nilCheck x) (h:wpQ S (opQ cx o e H) R):Still Any P R o ι F H w a:=by
 unfold opQ at h
 rw [ho] at h
 simp only at h
 have hx:=Aal hs x
 split at h
 ·rename_i i j k hv
  rw [hv] at hx
  have:R (.ptr i j k,H)∧ ∃ad,a.eval x= .pointer (some ad):=by
   rw [Aaj] at h
   cases hx with
   |ptr _ _ _ _ hp=>
    unfold OwnPtr at hp
    split at h
    ·rename_i he
     rw [he] at hp
     obtain ⟨b,_,hb⟩:=hp;exact ⟨h,_,hb⟩
    ·rename_i he
     rw [he] at hp
     obtain ⟨_,b,_,hb⟩:=hp;exact ⟨h,_,hb⟩
    ·exact h.elim
  obtain ⟨h,ad,had⟩:=this
  refine Aak hg h hx fun w=> ?_
  simp [execOp,ho,had]
 ·rename_i s x' j hv
  rw [hv] at hx
  have: ∃ad,a.eval x= .pointer (some ad):=by
   have:=hx.t_inv
   generalize hq:a.eval x=q at this
   cases this with
   |ip=>exact ⟨_,rfl⟩
  obtain ⟨ad,had⟩:=this
  refine Aak hg h hx fun w=> ?_
  simp [execOp,ho,had]
 ·rename_i f cs hv
  rw [hv] at hx
  have:=hx.t_inv
  generalize hq:a.eval x=q at this hx
  cases this with
  |clo _ _ vs hl hc=>
   refine Aak hg h hx fun w=> ?_
   simp [execOp,ho,hq]
 ·rename_i f cs hv
  rw [hv] at hx
  generalize hq:a.eval x=q at hx
  cases hx with
  |clo _ _ vs hl hc=>
   refine Aak hg h (.clo _ _ _ hl hc) fun w=> ?_
   simp [execOp,ho,hq]
 ·exact h.elim
theorem AeR (hg:Good ι F w H) (hs:Sim ι F w H e a) (f:Nat) (fi cs:Array Operand) (ho:o.op= .makeFunc (.func f) fi cs) (h:wpQ S (opQ cx o e H) R):Still Any P R o ι F H w a:=by
 unfold opQ at h
 rw [ho] at h
 simp only at h
 split at h
 ·rename_i hf
  obtain ⟨vs,h1,h2,h3⟩:=Ae9 hs (Aaa _ _ _ h)
  have hfi:fi= #[]:=by simpa using hf
  subst hfi
  have hrun: ∀w,(execOp a.eval o).run P w= .ok (.value (.func (.func f) #[] (cs.map a.eval))) w:=by
   intro w
   simp [execOp,ho,Instr.makeFunc]
  have hlen:vs.length=(cs.map a.eval).size:=by simpa using h2
  have hall: ∀(i:Nat) v (c:Value),vs[i]?=some v→(cs.map a.eval)[i]?=some c→VR ι F w H v c:=by
   intro i v c hv hc
   simp at hc
   obtain ⟨x,hx,rfl⟩:=hc
   exact h3 i v x hv (by simpa using hx)
  split at h1
  ·rename_i l hl
   have:=AbG hl
   subst this
   refine Aak hg h1 (.t _ _ (.clo _ _ _ (by simpa using hlen) ?_)) hrun
   intro i x v hx hv
   exact (hall i (.t x) v (by simp [hx]) hv).t_inv
  ·exact Aak hg h1 (.clo _ _ _ hlen hall) hrun
 ·exact h.elim
theorem Af0 (hg:Good ι F w H) (hs:Sim ι F w H e a) (x:Operand) (i:Nat) (ho:o.op= .extract x i) (h:wpQ S (opQ cx o e H) R):Still Any P R o ι F H w a:=by
 unfold opQ at h
 rw [ho] at h
 simp only at h
 have hx:=Aal hs x
 split at h
 ·rename_i vs hv
  rw [hv] at hx
  generalize hq:a.eval x=q at hx
  cases hx with
  |tup _ cs hl hc=>
   split at h
   ·rename_i v hn
    rw [Aaj] at hn
    have h1:=Aat (Aaa _ _ _ h)
    have hlt:=(List.getElem?_eq_some_iff.1 hn).1
    have hcs:cs[i]?=some cs[i]:=by simp
    refine Aak hg h1 (hc i v _ hn hcs) fun w=> ?_
    simp [execOp,ho,hq,Instr.extract,hcs]
   ·exact h.elim
 ·exact h.elim
end
end Go.Eva
namespace Go.Eva
open Go.RowKit
def notAgg:TypeDesc→Prop
 | .struct _=>False
 | .array _ _=>False
 |_=>True
def TyR (cx:Cx):Ty→TypeDesc→Prop
 | .int k,d=>d= .int k
 | .bool,d=>d= .bool
 | .str,d=>d= .string
 | .ptr,d=> ∃e,d= .pointer e
 | .fn,d=>notAgg d
 | .slice e,d=>d= .slice e∧ ∃i,cx.ti.get e=some i∧0<i.size
 | .struct fs, d => ∃ fields : Array Field, d = .struct fields ∧ fields.toList.map (fun f => (f.offset, f.type)) = fs ∧ ∀ f ∈ fields.toList, f.name ≠ "_" ∧ ∃ i, cx.ti.get f.type = some i
 | .map k e,d=>d= .map k e
 | .other,d=>notAgg d
def ZV (s:Nat) (z:V) (zv:Value):Prop:=(∀ι F w H,VR ι F w H z zv)∧(∀(i:Nat) c,zv.cells[i]?=some c→c.oneCell'=true)∧z≠ .t .any∧z.size=s∧zv.cells.size=s
def ExOK (P:Program) (cx:Cx) (f:Nat):Xf→Prop
 | .overlaps t => ∃ fn, P.funcs[f]? = some fn ∧ (fn.name == "runtime.NumGoroutine") = false ∧ fn.body.isNone = true ∧ Extern.findNext fn = none ∧ Extern.find fn = some (Extern.SlicesOverlaps.overlaps fn.params fn.resultTypes) ∧
  fn.params[0]?=some t∧ ∃el,elemTy cx t=some el
structure CxTy (P:Program) (cx:Cx):Prop where
 ty: ∀t i,cx.ti.get t=some i→ ∃inf d,P.info? t=some inf∧P.underlying t=some d∧inf.size=i.size∧inf.bytes=i.bytes∧TyR cx i.ty d∧
  (i.eq=true→P.stoodInHeld t=false∧P.eqGuardType P.depth t=false)∧(∃zv,inf.zero=some zv∧ ∀z,zeroV cx depth t=some z→ZV i.size z zv)
 zc: ∀t i inf zv,cx.ti.get t=some i→P.info? t=some inf→inf.zero=some zv→0<i.bytes→zv.cells.size=i.size∧ ∀(j:Nat) c,zv.cells[j]?=some c→c.oneCell'=true
 orders:P.follows .mixedOrders=true
 ex: ∀f x,exAt cx.ex f=some x→ExOK P cx f x
section
variable {P:Program} {cx:Cx} (hc:CxTy P cx)
include hc
theorem Abw {t:Nat} {i:TI} (h:cx.ti.get t=some i) (w:World):(isAgg t).run P w= .ok (isStruct cx t) w:=by
 obtain ⟨inf,d,h1,h2,h3,h4,h5,_⟩:=hc.ty t i h
 unfold isAgg
 rw [Sem.run_bind,run_underlying h2 w]
 simp only [Result.andThen_ok]
 have:isStruct cx t=match d with| .struct _=>true| .array _ _=>true|_=>false:=by
  unfold isStruct
  rw [h]
  cases i with
  |mk ty s b eq=>
   cases ty<;>simp only [TyR] at h5<;>first
    |(subst h5;rfl)
    |(obtain ⟨e,rfl⟩:=h5;rfl)
    |(obtain ⟨rfl,_⟩:=h5;rfl)
    |(obtain ⟨fs,rfl,_⟩:=h5;rfl)
    |(cases d<;>first|rfl|exact h5.elim)
 rw [this]
 cases d<;>rfl
theorem Aav {t:Nat} {i:TI} (h:cx.ti.get t=some i) (w:World):(Go.sizeOf t).run P w= .ok (sizeOf cx t) w:=by
 obtain ⟨inf,d,h1,h2,h3,h4,h5,_⟩:=hc.ty t i h
 simp [Go.sizeOf,typeInfo,h1,h3,sizeOf,h]
theorem AhF {t f off ft:Nat} (h:fieldAt cx t f=some (off,ft)): ∃fields:Array Field,∃fd:Field,P.underlying t=some (.struct fields)∧fields[f]?=some fd∧fd.offset=off∧fd.type=ft∧ ∃i,cx.ti.get ft=some i:=by
 unfold fieldAt at h
 split at h
 ·rename_i fs s b eq hget
  obtain ⟨inf,d,h1,h2,h3,h4,h5,_⟩:=hc.ty _ _ hget
  simp only [TyR] at h5
  obtain ⟨fields,rfl,hm,hall⟩:=h5
  rw [Aaj,←hm] at h
  simp at h
  obtain ⟨fd,hfd,h6,h7⟩:=h
  refine ⟨fields,fd,h2,by simpa using hfd,h6,h7,?_⟩
  have hmem:fd∈fields.toList:=by
   simp
   obtain ⟨hlt,rfl⟩:=Array.getElem?_eq_some_iff.1 hfd
   exact Array.getElem_mem hlt
  have:=(hall fd hmem).2
  rwa [h7] at this
 ·contradiction
theorem Abo {t el:Nat} (h:elemTy cx t=some el):P.underlying t=some (.slice el)∧ ∃i inf,cx.ti.get el=some i∧0<i.size∧P.info? el=some inf∧inf.size=i.size∧inf.bytes=i.bytes∧sizeOf cx el=i.size∧bytesOf cx el=i.bytes:=by
 unfold elemTy at h
 split at h
 ·rename_i e' s b eq hget
  simp at h;subst h
  obtain ⟨inf,d,h1,h2,h3,h4,h5,_⟩:=hc.ty _ _ hget
  simp only [TyR] at h5
  obtain ⟨rfl,i,hi,hpos⟩:=h5
  obtain ⟨inf',d',k1,k2,k3,k4,_⟩:=hc.ty _ _ hi
  exact ⟨h2,i,inf',hi,hpos,k1,k3,k4,by simp [sizeOf,hi],by simp [bytesOf,hi]⟩
 ·contradiction
end
section
variable {P:Program} {cx:Cx} {S:Task→(Res→Prop)→Prop} {o:Oper} {e:Env} {H:Heap} {a:Act} {w:World} {ι:Io} {F:Nat→Prop} {R:V×Heap→Prop} {Q:Exit→Act→World→Prop}
theorem AfM (hc:CxTy P cx) (hg:Good ι F w H) (hs:Sim ι F w H e a) (src dst:Nat) (x:Operand) (ho:o.op= .convert src dst x) (hsrc: ∃i,cx.ti.get src=some i) (h:wpQ S (opQ cx o e H) R):
  Still Any P R o ι F H w a:=by
 unfold opQ at h
 rw [ho] at h
 simp only at h
 have hx:=Aal hs x
 split at h
 ·rename_i k' n k hv hk
  rw [hv] at hx
  have hx:=hx.t_inv.int_inv
  unfold intTy at hk
  split at hk
  ·rename_i kk s b eq hget
   simp at hk;subst hk
   obtain ⟨inf,d,h1,h2,h3,h4,h5,_⟩:=hc.ty _ _ hget
   simp only [TyR] at h5
   subst h5
   obtain ⟨i',hi'⟩:=hsrc
   obtain ⟨inf',d',k1,k2,_⟩:=hc.ty _ _ hi'
   refine Aak hg h (.t _ _ (.int _ _)) fun w=> ?_
   simp [execOp,ho,hx,convert,run_underlying k2,run_underlying h2,Conv.intToInt]
  ·contradiction
 ·exact h.elim
theorem AaD (b o n:Nat):(⟨b,o,none⟩:Addr).add n=⟨b,o+n,none⟩:=by unfold Addr.add;split<;>simp_all
theorem Aeg (hc:CxTy P cx) (hg:Good ι F w H) (hs:Sim ι F w H e a) (t:Nat) (x:Operand) (f:Nat) (ho:o.op= .fieldAddr t x f) (h:wpQ S (opQ cx o e H) R):
  Still Any P R o ι F H w a:=by
 unfold opQ at h
 rw [ho] at h
 simp only at h
 have hx:=Aal hs x
 have run: ∀(b j off ft:Nat),fieldAt cx t f=some (off,ft)→Nat.beq (sizeOf cx ft) 0=false→a.eval x= .pointer (some ⟨b,j,none⟩)→ ∀w,(execOp a.eval o).run P w= .ok (.value (.pointer (some ⟨b,j+off,none⟩))) w:=by
  intro b j off ft hf hz hp w
  obtain ⟨fields,fd,h1,h2,h3,h4,i,h5⟩:=AhF hc hf
  have hsz:=Aav hc h5 w
  rw [←h4] at hsz
  have hnz:sizeOf cx fd.type≠0:=by rw [h4];exact Nat.ne_of_beq_eq_false hz
  simp [execOp,ho,hp,Instr.fieldAt,run_underlying h1,h2,Instr.sureAddr,fieldPlace,AaD,h3,hsz,hnz]
 split at h
 ·rename_i off ft id i j hf hv
  rw [hv] at hx
  rw [Aaj] at h
  cases hx with
  |ptr _ _ _ _ hp=>
   unfold OwnPtr at hp
   split at h
   ·rename_i hh hz
    have h1:=Abz (Aaa _ _ _ h)
    rw [hh] at hp
    obtain ⟨b,hb,he⟩:=hp
    refine Aak hg h1 (.ptr _ _ _ _ ?_) (run b j off ft hf hz he)
    unfold OwnPtr
    rw [hh]
    exact ⟨b,hb,rfl⟩
   ·rename_i hh hz
    have h1:=Abz (Aaa _ _ _ h)
    rw [hh] at hp
    obtain ⟨hi,b,hb,he⟩:=hp
    refine Aak hg h1 (.ptr _ _ _ _ ?_) (run b _ off ft hf hz he)
    unfold OwnPtr
    rw [hh]
    exact ⟨hi,b,hb,by simp [Nat.add_assoc]⟩
   ·exact h.elim
 ·rename_i off ft s x' j hf hv
  rw [hv] at hx
  split at h
  ·exact h.elim
  ·rename_i hz
   have h1:=Abz (Aaa _ _ _ h)
   have:=hx.t_inv
   generalize hq:a.eval x=q at this
   cases this with
   |ip _ _ _ b o' c hF hx' hcc hl hr=>
    refine Aak hg h1 (.t _ _ ?_) (run b (o'+j) off ft hf hz hq)
    have:=TR.ip (F:=F) (w:=w) s x' (j+off) b o' c hF hx' hcc hl hr
    simpa [Nat.add_assoc] using this
 ·exact h.elim
end
end Go.Eva
namespace Go.Eva
open Go.RowKit
section
variable {P:Program} {cx:Cx} {S:Task→(Res→Prop)→Prop} {w:World} {ι:Io} {F:Nat→Prop} {H:Heap}
theorem Aek (hc:CxTy P cx) {t:Nat} {i:TI} (hi:cx.ti.get t=some i) (hst:isStruct cx t=true) (cs:Array Value) (off:Nat):
  (part t cs off).run P w= .ok (.agg (cs.extract off (off+sizeOf cx t))) w:=by
 simp [part,Abw hc hi,hst,Aav hc hi]
theorem Acm (hc:CxTy P cx) {t:Nat} {i:TI} (hi:cx.ti.get t=some i) (hst:isStruct cx t=false) (cs:Array Value) (off:Nat) {v:Value} (hv:cs[off]?=some v):
  (part t cs off).run P w= .ok v w:=by
 simp [part,Abw hc hi,hst,hv]
theorem Aj4 {x y:T}:teq x y=true↔x=y:=by simp [teq]
theorem Ad5 {x y:T}:teq x y=false↔x≠y:=by simp [teq]
theorem Akk (w0:World) (hc:CxTy P cx): ∀(n d t:Nat) (x y:T) (u v:Value),n≤d→conform cx n t x=true→conform cx n t y=true→TR F w x u→TR F w y v→
  (Op.equalIn d t u v).run P w0= .ok (teq x y) w0:=by
 intro n
 induction n with
 |zero=>intro d t x y u v _ h;simp [conform] at h
 |succ n ih=>
  intro d t x y u v hd hx hy hu hv
  obtain ⟨d,rfl⟩: ∃m,d=m+1:=⟨d-1,by omega⟩
  unfold conform at hx hy
  cases hget:cx.ti.get t with
  |none=>simp [hget] at hx
  |some i=>
   rw [hget] at hx hy
   simp only at hx hy
   obtain ⟨inf,ds,h1,h2,h3,h4,h5,h6,_⟩:=hc.ty t i hget
   cases hty:i.ty with
   |int k=>
    rw [hty] at hx hy h5
    cases x<;>simp at hx
    cases y<;>simp at hy
    subst hx;subst hy
    rw [hu.int_inv,hv.int_inv]
    simp only [TyR] at h5
    subst h5
    rw [run_equalIn_int w0 d t k k _ _ h2]
    congr 1
    rename_i a b
    by_cases e:a=b
    ·subst e;simp [teq]
    ·have:teq (T.int k a) (T.int k b)=false:=by rw [Ad5];simp [e]
     rw [this];simpa using e
   |bool=>
    rw [hty] at hx hy h5
    cases x<;>simp at hx
    cases y<;>simp at hy
    rw [hu.bool_inv,hv.bool_inv]
    simp only [TyR] at h5
    subst h5
    rw [run_equalIn_bool' w0 d t _ _ h2]
    congr 1
    rename_i a b
    by_cases e:a=b
    ·subst e;simp [teq]
    ·have:teq (T.bool a) (T.bool b)=false:=by rw [Ad5];simp [e]
     rw [this];simpa using e
   |struct fs=>
    rw [hty] at hx hy h5
    cases x<;>simp at hx
    cases y<;>simp at hy
    rename_i vs us
    simp only [TyR] at h5
    obtain ⟨fields,rfl,hm,hall⟩:=h5
    obtain ⟨hp,_⟩:=h6 hx.1
    cases hu with
    |agg _ cs hl1 ho1 hc1=>
    cases hv with
    |agg _ ds hl2 ho2 hc2=>
    have hfo:P.fieldsOf t=fields:=by simp [Program.fieldsOf,h2]
    rw [run_equalIn_struct w0 d t cs ds (by rw [hfo];exact h2) hp,hfo]
    have key : ∀ (fl : List Field) (pos : Nat) (az bs : List T), (∀ f ∈ fl, f.name ≠ "_" ∧ ∃ i, cx.ti.get f.type = some i) → conformF cx (conform cx n) pos (fl.map fun f => (f.offset, f.type)) az = true →
      conformF cx (conform cx n) pos (fl.map fun f=>(f.offset,f.type)) bs=true→vs.drop pos=az→us.drop pos=bs→pos+az.length=vs.length→pos+bs.length=us.length→
      (Op.eqFields d cs ds fl).run P w0= .ok (@decide (az=bs) (Classical.propDecidable _)) w0:=by
     intro fl
     induction fl with
     |nil=>
      intro pos az bs _ h7 h8 _ _ _ _
      simp only [List.map_nil] at h7 h8
      cases az with
      |cons _ _=>simp [conformF] at h7
      |nil=>cases bs with
       |cons _ _=>simp [conformF] at h8
       |nil=>simp [Op.eqFields]
     |cons f fl ihf=>
      intro pos az bs hfl h7 h8 ha hb hla hlb
      obtain ⟨hname,fi,hfi⟩:=hfl f (by simp)
      simp only [List.map_cons,conformF,Bool.and_eq_true] at h7 h8
      obtain ⟨hoff,h7⟩:=h7
      obtain ⟨_,h8⟩:=h8
      have hoff:=Nat.eq_of_beq_eq_true hoff
      simp only [Op.eqFields]
      cases hst:isStruct cx f.type with
      |true=>
       rw [hst] at h7 h8
       simp only [Bool.and_eq_true,Nat.ble_eq] at h7 h8
       obtain ⟨⟨h7a,h7b⟩,h7c⟩:=h7
       obtain ⟨⟨h8a,h8b⟩,h8c⟩:=h8
       generalize hsz:sizeOf cx f.type=sz at*
       have part_tr: ∀(ws az':List T) (zs:Array Value),ws.length=zs.size→(∀(i:Nat) c,zs[i]?=some c→c.oneCell'=true)→(∀(i:Nat) x c,ws[i]?=some x→zs[i]?=some c→TR F w x c)→ws.drop pos=az'→sz≤az'.length→pos+az'.length=ws.length→
         TR F w (.agg (az'.take sz)) (.agg (zs.extract pos (pos+sz))):=by
        intro ws az' zs hlen hone htr hdrop hle hpos
        refine .agg _ _ ?_ ?_ ?_
        ·simp;omega
        ·intro i c hi
         rw [Array.getElem?_extract] at hi
         split at hi
         ·exact hone _ c hi
         ·contradiction
        ·intro i x c hx' hc'
         rw [Array.getElem?_extract] at hc'
         split at hc'
         ·refine htr (pos+i) x c ?_ hc'
          rw [List.getElem?_take] at hx'
          split at hx'
          ·rw [←hdrop,List.getElem?_drop] at hx';exact hx'
          ·contradiction
         ·contradiction
       have t1:=part_tr vs az cs hl1 ho1 hc1 ha h7a hla
       have t2:=part_tr us bs ds hl2 ho2 hc2 hb h8a hlb
       have e1:=ih d f.type _ _ _ _ (by omega) h7b h8b t1 t2
       have ihr:=ihf (pos+sz) (az.drop sz) (bs.drop sz) (fun f hf=>hfl f (by simp [hf])) h7c h8c (by rw [←ha,List.drop_drop]) (by rw [←hb,List.drop_drop]) (by simp;omega) (by simp;omega)
       simp only [hname,ne_eq,not_false_eq_true,if_true,Sem.run_bind,hoff,Aek hc hfi hst,hsz,Result.andThen_ok,e1]
       cases hq:teq (T.agg (az.take sz)) (T.agg (bs.take sz)) with
       |true=>
        rw [Aj4] at hq
        have hq:az.take sz=bs.take sz:=by simpa using hq
        simp only [Bool.not_true,Bool.false_eq_true,if_false]
        rw [ihr]
        congr 1
        rw [decide_eq_decide]
        constructor
        ·intro h;rw [←List.take_append_drop sz az,←List.take_append_drop sz bs,hq,h]
        ·intro h;rw [h]
       |false=>
        rw [Ad5] at hq
        simp only [Bool.not_false,if_true,Sem.run_pure]
        congr 1
        symm
        rw [decide_eq_false_iff_not]
        intro h;exact hq (by rw [h])
      |false=>
       rw [hst] at h7 h8
       simp only at h7 h8
       cases az with
       |nil=>simp at h7
       |cons x az=>
       cases bs with
       |nil=>simp at h8
       |cons y bs=>
       simp only [Bool.and_eq_true] at h7 h8
       have hvx:vs[pos]?=some x:=by
        have:=congrArg (fun l=>l[0]?) ha
        simpa [List.getElem?_drop] using this
       have huy:us[pos]?=some y:=by
        have:=congrArg (fun l=>l[0]?) hb
        simpa [List.getElem?_drop] using this
       have h9:pos<cs.size:=by rw [←hl1];exact (List.getElem?_eq_some_iff.1 hvx).1
       have h10:pos<ds.size:=by rw [←hl2];exact (List.getElem?_eq_some_iff.1 huy).1
       have g1:cs[pos]?=some cs[pos]:=by simp
       have g2:ds[pos]?=some ds[pos]:=by simp
       have e1:=ih d f.type _ _ _ _ (by omega) h7.1 h8.1 (hc1 pos x _ hvx g1) (hc2 pos y _ huy g2)
       have da:vs.drop (pos+1)=az:=by rw [←List.drop_drop,ha];rfl
       have db:us.drop (pos+1)=bs:=by rw [←List.drop_drop,hb];rfl
       have ihr:=ihf (pos+1) az bs (fun f hf=>hfl f (by simp [hf])) h7.2 h8.2 da db (by simp at hla;omega) (by simp at hlb;omega)
       simp only [hname,ne_eq,not_false_eq_true,if_true,Sem.run_bind,hoff,Acm hc hfi hst _ _ g1,Acm hc hfi hst _ _ g2,Result.andThen_ok,e1]
       cases hq:teq x y with
       |true=>
        rw [Aj4] at hq
        simp only [Bool.not_true,Bool.false_eq_true,if_false]
        rw [ihr]
        congr 1
        rw [decide_eq_decide]
        simp [hq]
       |false=>
        rw [Ad5] at hq
        simp only [Bool.not_false,if_true,Sem.run_pure]
        congr 1
        symm
        rw [decide_eq_false_iff_not]
        simp [hq]
    have:=key fields.toList 0 vs us hall (by rw [hm];exact hx.2) (by rw [hm];exact hy.2) rfl rfl (by simp) (by simp)
    rw [this]
    congr 1
    unfold teq
    rw [decide_eq_decide]
    simp
   |_=>rw [hty] at hx;simp at hx
theorem Afl {t:Nat} {x:T} (hc:CxTy P cx) {vs:List T} (hx:x= .agg vs) (h:conform cx depth t x=true):P.eqGuardType P.depth t=false:=by
 subst hx
 unfold depth conform at h
 cases hget:cx.ti.get t with
 |none=>simp [hget] at h
 |some i=>
  rw [hget] at h
  simp only at h
  obtain ⟨inf,ds,h1,h2,h3,h4,h5,h6,_⟩:=hc.ty t i hget
  cases hty:i.ty with
  |struct fs=>rw [hty] at h;simp at h;exact (h6 h.1).2
  |_=>rw [hty] at h;simp at h
theorem tyBool (hc:CxTy P cx) {t:Nat} (h:isBool cx t=true):P.underlying t=some .bool:=by
 unfold isBool at h
 split at h
 ·rename_i i hget
  split at h
  ·rename_i hty
   obtain ⟨inf,ds,h1,h2,h3,h4,h5,h6,_⟩:=hc.ty t i hget
   rw [hty] at h5
   simp only [TyR] at h5
   rw [h2,h5]
  ·contradiction
 ·contradiction
theorem tyPtr (hc:CxTy P cx) {t:Nat} (h:isPtr cx t=true): ∃e,P.underlying t=some (.pointer e):=by
 unfold isPtr at h
 split at h
 ·rename_i i hget
  split at h
  ·rename_i hty
   obtain ⟨inf,ds,h1,h2,h3,h4,h5,h6,_⟩:=hc.ty t i hget
   rw [hty] at h5
   simp only [TyR] at h5
   obtain ⟨e,rfl⟩:=h5
   exact ⟨e,h2⟩
  ·contradiction
 ·contradiction
theorem AjY (d t e:Nat) (he:P.underlying t=some (.pointer e)):(Op.equalIn (d+1) t (.pointer none) (.pointer none)).run P w= .ok true w:=by
 simp [Op.equalIn,run_underlying he]
theorem Ah6 (d t e:Nat) (he:P.underlying t=some (.pointer e)) (p:Addr):(Op.equalIn (d+1) t (.pointer none) (.pointer (some p))).run P w= .ok false w:=by
 simp [Op.equalIn,run_underlying he]
theorem Ahz (d t e:Nat) (he:P.underlying t=some (.pointer e)) (p:Addr):(Op.equalIn (d+1) t (.pointer (some p)) (.pointer none)).run P w= .ok false w:=by
 simp [Op.equalIn,run_underlying he]
theorem Aii {id i j:Nat} {v:Value} (h:VR ι F w H (.ptr id i j) v) (ha:alive H (.ptr id i j)=true): ∃ad,v= .pointer (some ad):=by
 simp only [alive,there,Aaj] at ha
 cases h with
 |ptr _ _ _ _ hp=>
  unfold OwnPtr at hp
  split at ha
  ·rename_i he
   rw [he] at hp
   obtain ⟨b,_,hb⟩:=hp;exact ⟨_,hb⟩
  ·rename_i he
   rw [he] at hp
   obtain ⟨_,b,_,hb⟩:=hp;exact ⟨_,hb⟩
  ·rename_i he
   rw [he] at hp
   obtain ⟨_,_,b,_,hb⟩:=hp;exact ⟨_,hb⟩
  ·contradiction
theorem Agx {id off:Nat} {n lim:Option Nat} {u:Value} (ht:there H id=true) (h:OwnSl ι w H id off n lim u): ∃ad la ca,u= .slice ad la ca:=by
 simp only [there,Aaj] at ht
 unfold OwnSl at h
 split at h
 ·rename_i he;rw [he] at ht;simp at ht
 ·obtain ⟨a,cap,rfl,_⟩:=h;exact ⟨_,_,_,rfl⟩
 ·obtain ⟨a,cap,b,rfl,_⟩:=h;exact ⟨_,_,_,rfl⟩
 ·exact h.elim
theorem Aik {x:V} {u:Value} {R:V→Prop} {k:Bool→Q V} (hx:VR ι F w H x u) (hax:alive H x=true) (h:wpQ S (isNil x k) R): ∃ad la ca,u= .slice ad la ca∧wpQ S (k ad.isNone) R:=by
 have pick: ∀ {ad:Option Addr} {p:Nat→Bool},(∀c,0≤c→wpQ S (k (p c)) R)→(∃c,p c=ad.isNone)→wpQ S (k ad.isNone) R:=by
  rintro ad p h ⟨c,hc⟩
  rw [←hc];exact h c (Nat.zero_le _)
 have tree: ∀ {sz:Nat} {xs:List T} {u:Value},TR F w (.sl sz xs) u→(∀c,0≤c→wpQ S (k (decide (c=0∧xs.length=0))) R)→ ∃ad la ca,u= .slice ad la ca∧wpQ S (k ad.isNone) R:=by
  intro sz xs u ht h
  cases ht with
  |slN _ a cap=>
   refine ⟨_,_,_,rfl,pick h ?_⟩
   cases a with
   |none=>exact ⟨0,rfl⟩
   |some a=>exact ⟨1,rfl⟩
  |slC _ _ b o cap c hn=>exact ⟨_,_,_,rfl,pick h ⟨1,rfl⟩⟩
 have own: ∀ {ad:Option Addr},(∀c,0≤c→wpQ S (k (decide (c=0))) R)→wpQ S (k ad.isNone) R:=by
  intro ad h
  cases ad with
  |none=>exact pick h ⟨0,rfl⟩
  |some a=>exact pick h ⟨1,rfl⟩
 unfold isNil at h
 split at h
 ·cases hx;exact ⟨_,_,_,rfl,h⟩
 ·exact tree hx.t_inv h
 ·cases hx with|fit _ _ _ ht=>exact tree ht h
 ·cases hx with
  |all _ _ _ ho=>obtain ⟨ad,la,ca,rfl⟩:=Agx hax ho;exact ⟨_,_,_,rfl,own h⟩
 ·cases hx with
  |sl _ _ _ _ _ ho=>obtain ⟨ad,la,ca,rfl⟩:=Agx hax ho;exact ⟨_,_,_,rfl,own h⟩
 ·exact h.elim
theorem AhL (d t e:Nat) (he:P.underlying t=some (.slice e)) (ad:Option Addr) (la ca:Nat):(Op.equalIn (d+1) t (.slice ad la ca) (.slice none 0 0)).run P w= .ok ad.isNone w:=by
 cases ad<;>simp [Op.equalIn,run_underlying he]
theorem Akb (hc:CxTy P cx) {op:BinOp} {t:Nat} {x y:V} {u v:Value} {R:V→Prop} (hx:VR ι F w H x u) (hy:VR ι F w H y v) (hax:alive H x=true) (h:wpQ S (nilSl cx op t x y) R):
  ∃r val,v= .slice none 0 0∧R r∧VR ι F w H r val∧ ∀w,(binOp op t u v).run P w= .ok val w:=by
 unfold nilSl at h
 split at h
 ·rename_i el he
  obtain ⟨hu,_⟩:=Abo hc he
  cases hy
  split at h
  ·obtain ⟨ad,la,ca,rfl,h⟩:=Aik hx hax h
   exact ⟨_,_,rfl,h,.t _ _ (.bool _),fun w=>by simp [binOp,Op.equal,Op.maxDepth,AhL 9999 t el hu]⟩
  ·obtain ⟨ad,la,ca,rfl,h⟩:=Aik hx hax h
   exact ⟨_,_,rfl,h,.t _ _ (.bool _),fun w=>by simp [binOp,Op.equal,Op.maxDepth,AhL 9999 t el hu]⟩
  ·exact h.elim
 ·exact h.elim
theorem AkW (hc:CxTy P cx) {op:BinOp} {t:Nat} {x y:V} {u v:Value} {R:V→Prop} (xo yo:Operand) (h:wpQ S (binV cx op t x y) R) (hx:VR ι F w H x u) (hy:VR ι F w H y v) (hax:alive H x=true) (hay:alive H y=true):
  ∃r val,R r∧VR ι F w H r val∧ ∀w,(do eqGuard op t xo yo u v;binOp op t u v:Sem Value).run P w= .ok val w:=by
 have plain: ∀(val:Value),(∀c d,¬(u= .agg c∧v= .agg d))→ ¬(u= .nilIface∧v= .nilIface)→(∀w,(binOp op t u v).run P w= .ok val w)→ ∀w,(do eqGuard op t xo yo u v;binOp op t u v:Sem Value).run P w= .ok val w:=by
  intro val h1 h2 h3 w
  simp [AdM (P:=P) (w:=w) op t xo yo h1 h2,h3 w]
 have nilc: ∀(b:Bool),wpQ S (nilCmp cx t op b) R→(∃p,u= .pointer p)→(∃q,v= .pointer q)→(∀e,P.underlying t=some (.pointer e)→ ∀w,(Op.equalIn 10000 t u v).run P w= .ok b w)→
   ∃r val,R r∧VR ι F w H r val∧ ∀w,(do eqGuard op t xo yo u v;binOp op t u v:Sem Value).run P w= .ok val w:=by
  rintro b h ⟨p,rfl⟩ ⟨q,rfl⟩ he
  unfold nilCmp at h
  split at h
  ·rename_i hp
   obtain ⟨e,hp⟩:=tyPtr hc hp
   have he:=he e hp
   split at h
   ·exact ⟨_,_,h,.t _ _ (.bool _),plain _ (by simp) (by simp) (fun w=>by simp [binOp,Op.equal,Op.maxDepth,he w])⟩
   ·exact ⟨_,_,h,.t _ _ (.bool _),plain _ (by simp) (by simp) (fun w=>by simp [binOp,Op.equal,Op.maxDepth,he w])⟩
   ·exact h.elim
  ·exact h.elim
 unfold binV at h
 split at h
 ·rename_i k a k' b
  obtain rfl:=hx.t_inv.int_inv
  obtain rfl:=hy.t_inv.int_inv
  have pl:=fun val h3=>plain val (by simp) (by simp) h3
  split at h
  ·obtain ⟨h1,h⟩:=h
   refine ⟨_,_,h,.t _ _ (.int _ _),pl _ fun w=> ?_⟩
   have: ¬b<0:=by omega
   simp [binOp,Op.shift,this]
  ·obtain ⟨h1,h⟩:=h
   refine ⟨_,_,h,.t _ _ (.int _ _),pl _ fun w=> ?_⟩
   have: ¬b<0:=by omega
   simp [binOp,Op.shift,this]
  ·split at h
   ·exact h.elim
   ·rename_i hk
    have hk:k=k':=of_decide_eq_true hk
    subst hk
    split at h
    ·exact ⟨_,_,h,.t _ _ (.int _ _),pl _ (by simp [binOp,Op.intArith])⟩
    ·exact ⟨_,_,h,.t _ _ (.int _ _),pl _ (by simp [binOp,Op.intArith])⟩
    ·exact ⟨_,_,h,.t _ _ (.int _ _),pl _ (by simp [binOp,Op.intArith])⟩
    ·exact ⟨_,_,h.2,.t _ _ (.int _ _),pl _ (by simp [binOp,Op.intDiv,h.1])⟩
    ·exact ⟨_,_,h.2,.t _ _ (.int _ _),pl _ (by simp [binOp,Op.intDiv,h.1])⟩
    ·exact ⟨_,_,h,.t _ _ (.int _ _),pl _ (by simp [binOp,Op.intBits])⟩
    ·exact ⟨_,_,h,.t _ _ (.int _ _),pl _ (by simp [binOp,Op.intBits])⟩
    ·exact ⟨_,_,h,.t _ _ (.int _ _),pl _ (by simp [binOp,Op.intBits])⟩
    ·exact ⟨_,_,h,.t _ _ (.int _ _),pl _ (by simp [binOp,Op.intBits])⟩
    ·exact ⟨_,_,h,.t _ _ (.bool _),pl _ (by simp [binOp,Op.intCmp])⟩
    ·exact ⟨_,_,h,.t _ _ (.bool _),pl _ (by simp [binOp,Op.intCmp])⟩
    ·exact ⟨_,_,h,.t _ _ (.bool _),pl _ (by simp [binOp,Op.intCmp])⟩
    ·exact ⟨_,_,h,.t _ _ (.bool _),pl _ (by simp [binOp,Op.intCmp])⟩
    ·exact ⟨_,_,h,.t _ _ (.bool _),pl _ (by simp [binOp,Op.intCmp])⟩
    ·exact ⟨_,_,h,.t _ _ (.bool _),pl _ (by simp [binOp,Op.intCmp])⟩
    ·exact h.elim
 ·rename_i a b
  obtain rfl:=hx.t_inv.bool_inv
  obtain rfl:=hy.t_inv.bool_inv
  have pl:=fun val h3=>plain val (by simp) (by simp) h3
  have hb:P.underlying t=some .bool→ ∀w,(Op.equalIn 10000 t (.bool a) (.bool b)).run P w= .ok (a==b) w:=fun hu w=>run_equalIn_bool' w 9999 t a b hu
  split at h
  ·obtain ⟨h1,h⟩:=h
   refine ⟨_,_,h,.t _ _ (.bool _),pl _ fun w=> ?_⟩
   simp [binOp,Op.equal,Op.maxDepth,hb (tyBool hc h1)]
  ·obtain ⟨h1,h⟩:=h
   refine ⟨_,_,h,.t _ _ (.bool _),pl _ fun w=> ?_⟩
   simp [binOp,Op.equal,Op.maxDepth,hb (tyBool hc h1)]
  ·exact h.elim
 ·rename_i xs ys
  have tx:=hx.t_inv
  have ty:=hy.t_inv
  have eqv:conform cx depth t (.agg xs)=true∧conform cx depth t (.agg ys)=true→ ∃cs ds,u= .agg cs∧v= .agg ds∧(∀w,(eqGuard op t xo yo u v).run P w= .ok () w)∧ ∀w,(Op.equal t u v).run P w= .ok (teq (.agg xs) (.agg ys)) w:=by
   rintro ⟨h1,h2⟩
   have he:=fun w0=>Akk w0 hc depth 10000 t _ _ _ _ (by unfold depth;omega) h1 h2 tx ty
   have hgt:=Afl hc rfl h1
   cases tx with
   |agg _ cs _ _ _=>
   cases ty with
   |agg _ ds _ _ _=>exact ⟨cs,ds,rfl,rfl,fun w=>run_eqGuard_agg (P:=P) w op t xo yo cs ds hgt,he⟩
  split at h
  ·obtain ⟨h1,h⟩:=h
   obtain ⟨cs,ds,rfl,rfl,h3,h4⟩:=eqv h1
   refine ⟨_,_,h,.t _ _ (.bool _),fun w=> ?_⟩
   simp only [Sem.run_bind,h3,Result.andThen_ok,binOp,h4,Sem.run_pure]
  ·obtain ⟨h1,h⟩:=h
   obtain ⟨cs,ds,rfl,rfl,h3,h4⟩:=eqv h1
   refine ⟨_,_,h,.t _ _ (.bool _),fun w=> ?_⟩
   simp only [Sem.run_bind,h3,Result.andThen_ok,binOp,h4,Sem.run_pure]
  ·exact h.elim
 ·have e1:=hx.t_inv
  have e2:=hy.t_inv
  cases e1;cases e2
  exact nilc true h ⟨_,rfl⟩ ⟨_,rfl⟩ (fun e he _=>AjY 9999 t e he)
 ·have e1:=hx.t_inv
  cases e1
  obtain ⟨ad,rfl⟩:=Aii hy hay
  exact nilc false h ⟨_,rfl⟩ ⟨_,rfl⟩ (fun e he _=>Ah6 9999 t e he _)
 ·have e1:=hx.t_inv
  have e2:=hy.t_inv
  cases e1;cases e2
  exact nilc false h ⟨_,rfl⟩ ⟨_,rfl⟩ (fun e he _=>Ah6 9999 t e he _)
 ·have e2:=hy.t_inv
  cases e2
  obtain ⟨ad,rfl⟩:=Aii hx hax
  exact nilc false h ⟨_,rfl⟩ ⟨_,rfl⟩ (fun e he _=>Ahz 9999 t e he _)
 ·have e1:=hx.t_inv
  have e2:=hy.t_inv
  cases e1;cases e2
  exact nilc false h ⟨_,rfl⟩ ⟨_,rfl⟩ (fun e he _=>Ahz 9999 t e he _)
 ·obtain ⟨r,val,e1,h1,h2,h3⟩:=Akb hc hx hy hax h
  exact ⟨r,val,h1,h2,plain _ (by rintro c d ⟨_,e2⟩;rw [e1] at e2;simp at e2) (by rintro ⟨_,e2⟩;rw [e1] at e2;simp at e2) h3⟩
variable {o:Oper} {e:Env} {a:Act} {R:V×Heap→Prop} {Q:Exit→Act→World→Prop}
theorem Ak5 (hc:CxTy P cx) (hg:Good ι F w H) (hs:Sim ι F w H e a) (op:BinOp) (t:Nat) (x y:Operand) (yt:Nat) (ho:o.op= .binOp op t x y yt) (h:wpQ S (opQ cx o e H) R):
  Still Any P R o ι F H w a:=by
 unfold opQ at h
 rw [ho] at h
 simp only at h
 split at h
 ·rename_i hal
  simp only [Bool.and_eq_true] at hal
  obtain ⟨r,val,h1,h2,h3⟩:=AkW hc x y (Aaa _ _ _ h) (Aal hs x) (Aal hs y) hal.1 hal.2
  refine Aak hg h1 h2 fun w=> ?_
  unfold execOp
  rw [ho]
  show ((do eqGuard op t x y (a.eval x) (a.eval y);binOp op t (a.eval x) (a.eval y):Sem Value)>>=fun v=>pure (Next.value v)).run P w=_
  rw [Sem.run_bind,h3]
  rfl
 ·exact h.elim
end
end Go.Eva
namespace Go.Eva
open Go.RowKit
section
variable {P:Program} {cx:Cx} {S:Task→(Res→Prop)→Prop} {w:World} {ι:Io} {F:Nat→Prop} {H:Heap}
theorem TR.one {x:T} {v:Value} (h:TR F w x v) (hx:x≠ .any) (hn: ∀vs,x≠ .agg vs):v.cells= #[v]:=by
 have one: ∀ {c:Value},c.oneCell'=true→c.cells= #[c]:=by intro c hc;cases c<;>simp_all [Value.oneCell',Value.cells]
 cases h with
 |pin v h=>exact one h
 |any=>exact absurd rfl hx
 |agg vs=>exact absurd rfl (hn _)
 |_=>rfl
theorem T.cells_one {x:T} (hn: ∀vs,x≠ .agg vs):x.cells= [x]:=by cases x<;>first|rfl|exact absurd rfl (hn _)
theorem TR.cells {x:T} {v:Value} (h:TR F w x v) (hx:x≠ .any):x.cells.length=v.cells.size∧ ∀(i:Nat) t c,x.cells[i]?=some t→v.cells[i]?=some c→TR F w t c:=by
 by_cases hn: ∃vs,x= .agg vs
 ·obtain ⟨vs,rfl⟩:=hn
  cases h with
  |agg _ cs hl h1 hc=>exact ⟨hl,hc⟩
 ·have hn: ∀vs,x≠ .agg vs:=fun vs e=>hn ⟨vs,e⟩
  rw [h.one hx hn,T.cells_one hn]
  refine ⟨rfl,fun i t c ht hc=> ?_⟩
  cases i with
  |zero=>simp at ht hc;subst ht;subst hc;exact h
  |succ i=>simp at ht
theorem V.cells_t (x:T):(V.t x).cells=x.cells.map .t:=by cases x<;>rfl
theorem OwnSl.any {id off:Nat} {n lim:Option Nat} {v c:Value} (h:OwnSl ι w H id off n lim v) (hc:v.cells[0]?=some c):OwnSl ι w H id off n lim c:=by
 unfold OwnSl at h⊢
 split at h
 ·trivial
 ·obtain ⟨a,cap,rfl,h1⟩:=h
  simp [Value.cells] at hc
  subst hc
  exact ⟨a,cap,rfl,h1⟩
 ·obtain ⟨a,cap,b,rfl,h1⟩:=h
  simp [Value.cells] at hc
  subst hc
  exact ⟨a,cap,b,rfl,h1⟩
 ·exact h.elim
theorem OwnPtr.any {id i j:Nat} {v c:Value} (h:OwnPtr ι H id i j v) (hc:v.cells[0]?=some c):OwnPtr ι H id i j c:=by
 unfold OwnPtr at h⊢
 split at h
 ·trivial
 ·obtain ⟨b,h1,rfl⟩:=h
  simp [Value.cells] at hc
  subst hc
  exact ⟨b,h1,rfl⟩
 ·obtain ⟨h0,b,h1,rfl⟩:=h
  simp [Value.cells] at hc
  subst hc
  exact ⟨h0,b,h1,rfl⟩
 ·obtain ⟨h0,h2,b,h1,rfl⟩:=h
  simp [Value.cells] at hc
  subst hc
  exact ⟨h0,h2,b,h1,rfl⟩
 ·exact h.elim
theorem VR.cells {x:V} {v:Value} (h:VR ι F w H x v) (hx:x≠ .t .any):
  ∀(i:Nat) t c,x.cells[i]?=some t→v.cells[i]?=some c→VR ι F w H t c:=by
 intro i t c ht hc
 cases h with
 |t x v h=>
  obtain ⟨h1,h2⟩:=h.cells (fun e=>hx (by rw [e]))
  rw [V.cells_t] at ht
  simp at ht
  obtain ⟨y,hy,rfl⟩:=ht
  exact .t _ _ (h2 i y c hy hc)
 |nil=>cases i<;>simp [V.cells,Value.cells] at ht hc;subst ht;subst hc;exact .nil
 |fit sz xs a h=>cases i<;>simp [V.cells,Value.cells] at ht hc;subst ht;subst hc;exact .fit _ _ _ h
 |all id lim v h=>cases i<;>simp [V.cells] at ht;subst ht;exact .all _ _ _ (h.any hc)
 |sl id off len lim v h=>cases i<;>simp [V.cells] at ht;subst ht;exact .sl _ _ _ _ _ (h.any hc)
 |ptr id j k v h=>cases i<;>simp [V.cells] at ht;subst ht;exact .ptr _ _ _ _ (h.any hc)
 |clo f cs vs hl hcc=>cases i<;>simp [V.cells,Value.cells] at ht hc;subst ht;subst hc;exact .clo _ _ _ hl hcc
 |agg vs cs hl h1 hcc=>exact hcc i t c ht hc
 |tup vs cs hl hcc=>cases i<;>simp [V.cells,Value.cells] at ht hc;subst ht;subst hc;exact .tup _ _ hl hcc
def OldSame (w w':World):Prop:=w.heap.size≤w'.heap.size∧ ∀b,b<w.heap.size→w'.heap[b]?=w.heap[b]?
theorem OldSame.refl (w:World):OldSame w w:=⟨Nat.le_refl _,fun _ _=>rfl⟩
theorem OldSame.trans {w w1 w2:World} (h:OldSame w w1) (k:OldSame w1 w2):OldSame w w2:=⟨Nat.le_trans h.1 k.1,fun b hb=>(k.2 b (Nat.lt_of_lt_of_le hb h.1)).trans (h.2 b hb)⟩
theorem OldSame.alloc (w:World) (o:Obj):OldSame w (w.alloc o):=⟨by simp,fun _ hb=>Aay hb⟩
theorem OldSame.cell {w w':World} (h:OldSame w w') {b o:Nat} {v:Value} (hv:w.cell? ⟨b,o,none⟩=some v):w'.cell? ⟨b,o,none⟩=some v:=by
 have hb:b<w.heap.size:=by
  rcases Nat.lt_or_ge b w.heap.size with hb|hb
  ·exact hb
  ·have:w.heap[b]?=none:=Array.getElem?_eq_none hb
   simp [World.cell?,this] at hv
 rw [Agj (h.2 b hb)]
 exact hv
theorem Abk (hc:CxTy P cx) {t:Nat} {i:TI} (hi:cx.ti.get t=some i) (hst:isStruct cx t=true) (b o:Nat) (cs:List Value) (hlen:cs.length=sizeOf cx t)
  (h: ∀(j:Nat) v,cs[j]?=some v→w.cell? ⟨b,o+j,none⟩=some v):(loadVar t ⟨b,o,none⟩).run P w= .ok (.agg cs.toArray) w:=by
 have hl:=run_loadCells_list (P:=P) w ⟨b,o,none⟩ cs (fun j v hj=>by rw [AaD];exact h j v hj)
 rw [hlen] at hl
 simp [loadVar,Abw hc hi,hst,Aav hc hi,hl]
theorem Abl (hc:CxTy P cx) {t:Nat} {i:TI} (hi:cx.ti.get t=some i) (hst:isStruct cx t=false) (b o:Nat) {v:Value}
  (h:w.cell? ⟨b,o,none⟩=some v):(loadVar t ⟨b,o,none⟩).run P w= .ok v w:=by
 simp [loadVar,Abw hc hi,hst,h]
theorem Ah0 (hc:CxTy P cx) {t s:Nat} {i:TI} (hi:cx.ti.get t=some i) {x:T} {j b o:Nat} {c:Nat→Value} {R:V→Prop} (h:wpQ S (loadT cx t s x j) R) (hx:x≠ .any)
  (hcc: ∀j,j<s→w.cell? ⟨b,o+j,none⟩=some (c j)∧(c j).oneCell'=true) (hl:x.cells.length=s) (hr: ∀(j:Nat) t,x.cells[j]?=some t→TR F w t (c j)):
  ∃v u,R v∧VR ι F w H v u∧(∀w',OldSame w w'→(loadVar t ⟨b,o+j,none⟩).run P w'= .ok u w'):=by
 have part: ∀(l:List T),isStruct cx t=true→l=(x.cells.drop j).take (sizeOf cx t)→(j+sizeOf cx t≤x.cells.length∨sizeOf cx t=0)→ ∃u,VR ι F w H (.t (.agg l)) u∧(∀w',OldSame w w'→(loadVar t ⟨b,o+j,none⟩).run P w'= .ok u w'):=by
  intro l hst he hle
  have hll:l.length=sizeOf cx t:=by subst he;simp;omega
  let cs:List Value:=(List.range (sizeOf cx t)).map fun k=>c (j+k)
  have hcs:cs.length=sizeOf cx t:=by simp [cs]
  refine ⟨.agg cs.toArray,.t _ _ (.agg _ _ (by simp [hll,hcs]) ?_ ?_),fun w' hw'=>Abk hc hi hst b (o+j) cs hcs ?_⟩
  ·intro k v hv
   simp [cs] at hv
   obtain ⟨m,hm,rfl⟩:=hv
   have hk:k<sizeOf cx t:=by have:=(List.getElem?_eq_some_iff.1 hm).1;simpa using this
   have:m=k:=by rw [List.getElem?_range hk] at hm;simpa using hm.symm
   exact (hcc (j+m) (by omega)).2
  ·intro k y v hy hv
   simp [cs] at hv
   obtain ⟨m,hm,rfl⟩:=hv
   have hk:k<sizeOf cx t:=by have:=(List.getElem?_eq_some_iff.1 hm).1;simpa using this
   have:m=k:=by rw [List.getElem?_range hk] at hm;simpa using hm.symm
   subst this
   subst he
   rw [List.getElem?_take_of_lt hk,List.getElem?_drop] at hy
   exact hr (j+m) y hy
  ·intro k v hv
   simp [cs] at hv
   obtain ⟨m,hm,rfl⟩:=hv
   have hk:k<sizeOf cx t:=by have:=(List.getElem?_eq_some_iff.1 hm).1;simpa using this
   have:m=k:=by rw [List.getElem?_range hk] at hm;simpa using hm.symm
   subst this
   have:=(hcc (j+m) (by omega)).1
   rw [←Nat.add_assoc] at this
   exact hw'.cell this
 unfold loadT at h
 split at h
 ·rename_i hst
  split at h
  ·rename_i hw
   simp only [Bool.and_eq_true,Bool.not_eq_true'] at hw
   have h1:=Nat.eq_of_beq_eq_true hw.1.1
   have h2:=Nat.eq_of_beq_eq_true hw.1.2
   have h3:=Nat.ne_of_beq_eq_false hw.2
   subst h1
   have hagg: ∃vs,x= .agg vs:=by
    by_cases hn: ∃vs,x= .agg vs
    ·exact hn
    ·have:=T.cells_one (fun vs e=>hn ⟨vs,e⟩)
     rw [this] at hl
     simp at hl
     omega
   obtain ⟨vs,rfl⟩:=hagg
   obtain ⟨u,hu,hrun⟩:=part vs hst (by simp [T.cells] at hl⊢;rw [List.take_of_length_le (by omega)]) (.inl (by omega))
   exact ⟨_,u,h,hu,hrun⟩
  ·rcases Ahk (Aaa _ _ _ h) with ⟨h1,h2⟩|⟨h1,h2⟩
   ·obtain ⟨u,hu,hrun⟩:=part _ hst rfl (.inl h2)
    exact ⟨_,u,h1,hu,hrun⟩
   ·obtain ⟨u,hu,hrun⟩:=part [] hst (by simp [h1]) (.inr h1)
    exact ⟨_,u,h2,hu,hrun⟩
 ·rename_i hst
  rcases Ahk (Aaa _ _ _ h) with ⟨h1,h2⟩|⟨h1,_⟩
  ·have hj:j<x.cells.length:=by omega
   have e:(x.cells.drop j).take 1= [x.cells[j]]:=by rw [List.drop_eq_getElem_cons hj];rfl
   rw [e] at h1
   exact ⟨_,c j,h1,.t _ _ (hr j _ (List.getElem?_eq_getElem hj)),fun w' hw'=>Abl hc hi hst b (o+j) (hw'.cell (hcc j (by omega)).1)⟩
  ·omega
theorem Ado {vs:List V} {cs:Array Value} (hl:vs.length=cs.size) (h1: ∀(i:Nat) c,cs[i]?=some c→c.oneCell'=true) (hcc: ∀(i:Nat) x c,vs[i]?=some x→cs[i]?=some c→VR ι F w H x c):
  VR ι F w H (mkAgg vs) (.agg cs):=by
 unfold mkAgg
 split
 ·rename_i l hl'
  have:=AbG hl'
  subst this
  refine .t _ _ (.agg _ _ (by simpa using hl) h1 ?_)
  intro i x c hx hc'
  exact (hcc i (.t x) c (by simp [hx]) hc').t_inv
 ·exact .agg _ _ hl h1 hcc
theorem Ako (hc:CxTy P cx) {t s:Nat} {i:TI} (hi:cx.ti.get t=some i) {v:V} {val:Value} {j b:Nat} {R:V→Prop} (h:wpQ S (loadV cx t s v j) R) (hv:v≠ .t .any) (hsz:v.size=s) (hvs:val.cells.size=s)
  (hvr:VR ι F w H v val) (hone: ∀(i:Nat) c,val.cells[i]?=some c→c.oneCell'=true) (hcell: ∀k,w.cell? ⟨b,k,none⟩=val.cells[k]?):
  ∃v' u,R v'∧VR ι F w H v' u∧(∀w',OldSame w w'→(loadVar t ⟨b,j,none⟩).run P w'= .ok u w'):=by
 have hcells:=hvr.cells hv
 have hlen:v.cells.length=val.cells.size:=by rw [hvs,←hsz];rfl
 have part:isStruct cx t=true→(j+sizeOf cx t≤v.cells.length∨sizeOf cx t=0)→ ∃u,VR ι F w H (mkAgg ((v.cells.drop j).take (sizeOf cx t))) u∧(∀w',OldSame w w'→(loadVar t ⟨b,j,none⟩).run P w'= .ok u w'):=by
  intro hst hle
  have hcl: ∀(k:Nat) c,((val.cells.toList.drop j).take (sizeOf cx t))[k]?=some c→k<sizeOf cx t∧val.cells[j+k]?=some c:=by
   intro k c hk
   rw [List.getElem?_take] at hk
   split at hk
   ·rw [List.getElem?_drop] at hk
    exact ⟨by assumption,by simpa using hk⟩
   ·contradiction
  refine ⟨.agg ((val.cells.toList.drop j).take (sizeOf cx t)).toArray,Ado ?_ ?_ ?_,?_⟩
  ·simp;omega
  ·intro k c hk
   exact hone _ c (hcl k c (by rw [List.getElem?_toArray] at hk;exact hk)).2
  ·intro k x c hx hk
   obtain ⟨hk1,hk2⟩:=hcl k c (by rw [List.getElem?_toArray] at hk;exact hk)
   rw [List.getElem?_take_of_lt hk1,List.getElem?_drop] at hx
   exact hcells _ x c hx hk2
  ·exact fun w' hw'=>Abk (P:=P) (w:=w') hc hi hst b j ((val.cells.toList.drop j).take (sizeOf cx t)) (by simp;omega) (by
    intro k u hu
    refine hw'.cell ?_
    rw [hcell]
    exact (hcl k u hu).2)
 unfold loadV at h
 split at h
 ·rename_i hst
  split at h
  ·rename_i hw
   simp only [Bool.and_eq_true,Bool.not_eq_true'] at hw
   have h1:=Nat.eq_of_beq_eq_true hw.1.1
   have h2:=Nat.eq_of_beq_eq_true hw.1.2
   have h3:=Nat.ne_of_beq_eq_false hw.2
   subst h1
   have h4:=Aat h
   have hagg: ∃cs,val= .agg cs:=by
    cases val<;>first|exact ⟨_,rfl⟩|(exfalso;simp [Value.cells] at hvs;omega)
   obtain ⟨cs,rfl⟩:=hagg
   refine ⟨v,.agg cs,h4,hvr,fun w' hw'=> ?_⟩
   have:=Abk (P:=P) (w:=w') hc hi hst b 0 cs.toList (by simp [Value.cells] at hvs;simp;omega) (by
    intro k u hu
    refine hw'.cell ?_
    rw [hcell]
    simpa [Value.cells] using hu)
   simpa using this
  ·rcases AcU (Aaa _ _ _ h) with ⟨h1,h2⟩|⟨h1,h2⟩
   ·obtain ⟨u,hu,hrun⟩:=part hst (.inl h2)
    exact ⟨_,u,Aat h1,hu,hrun⟩
   ·obtain ⟨u,hu,hrun⟩:=part hst (.inr h1)
    rw [h1] at hu
    exact ⟨_,u,Aat h2,hu,hrun⟩
 ·rename_i hst
  rcases AcU (Aaa _ _ _ h) with ⟨h1,h2⟩|⟨h1,_⟩
  ·have hj:j<v.cells.length:=by omega
   have e:(v.cells.drop j).take 1= [v.cells[j]]:=by rw [List.drop_eq_getElem_cons hj];rfl
   rw [e] at h1
   have hj':j<val.cells.size:=by omega
   have hcv:val.cells[j]?=some val.cells[j]:=by simp
   exact ⟨_,val.cells[j],h1,hcells j _ _ (List.getElem?_eq_getElem hj) hcv,fun w' hw'=>Abl hc hi hst b j (hw'.cell (by rw [hcell];exact hcv))⟩
  ·omega
theorem AgG (hc:CxTy P cx) (hg:Good ι F w H) {t:Nat} {i:TI} (hi:cx.ti.get t=some i) {a:V} {val:Value} {R:V→Prop} (h:wpQ S (loadAt cx t a H) R) (ha:VR ι F w H a val):
  ∃v u,R v∧VR ι F w H v u∧(∀w',OldSame w w'→(Instr.loadAt t val).run P w'= .ok u w')∧ ∃ad,val= .pointer (some ad)∧ ∀w',OldSame w w'→(loadVar t ad).run P w'= .ok u w':=by
 have fin: ∀ {b o:Nat} {u:Value},(∀w',OldSame w w'→(loadVar t ⟨b,o,none⟩).run P w'= .ok u w')→ ∀w',OldSame w w'→(Instr.loadAt t (.pointer (some ⟨b,o,none⟩))).run P w'= .ok u w':=by
  intro b o u hu w' hw'
  simp [Instr.loadAt,Instr.sureAddr,hu w' hw']
 unfold loadAt at h
 split at h
 ·rename_i id k j
  rw [Aaj] at h
  cases ha with
  |ptr _ _ _ _ hp=>
  unfold OwnPtr at hp
  split at h
  ·rename_i s v ro ho
   rw [ho] at hp
   obtain ⟨b,hb,rfl⟩:=hp
   split at h
   ·obtain ⟨h1,h2,b',vv,e,h3,h4,h5,h6,h7⟩:=hg.obj id _ ho
    rw [hb] at h3
    obtain rfl:=Option.some.inj h3
    obtain ⟨v',u,g1,g2,g3⟩:=Ako (P:=P) hc hi h h1 h2 h6 h5 h7 (fun k=>cell_of_row w b k _ e _ h4)
    exact ⟨v',u,g1,g2,fin g3,_,rfl,g3⟩
   ·exact h.elim
  ·rename_i s xs sp ro ho
   rw [ho] at hp
   obtain ⟨hlt,b,hb,rfl⟩:=hp
   obtain ⟨x,hx,hne,h⟩:=h
   obtain ⟨h0,hcase⟩:=hg.obj id _ ho
   rcases hcase with ⟨h1,h2,_⟩|⟨b',cs,e,h1,h2,h3,h4,h5,h6,c,g1,g2,g3⟩
   ·subst h2;simp at hlt
   ·rw [hb] at h1
    obtain rfl:=Option.some.inj h1
    obtain ⟨v',u,k1,k2,k3⟩:=Ah0 (P:=P) (o:=k*s) (c:=c k) hc hi h hne (fun j hj=>g1 k j hlt hj) (g2 k x hx hne) (fun j t ht=>g3 k j x t hx hne ht)
    exact ⟨v',u,k1,k2,fin k3,_,rfl,k3⟩
  ·rename_i vs ho
   rw [ho] at hp
   obtain ⟨hlt,rfl,b,hb,rfl⟩:=hp
   split at h
   ·rename_i hst
    obtain ⟨b',cs,e,h1,h2,h3,h4,h5⟩:=hg.obj id _ ho
    rw [hb] at h1
    obtain rfl:=Option.some.inj h1
    have hst:isStruct cx t=false:=by simpa using hst
    rcases AcU (Aaa _ _ _ h) with ⟨k1,k2⟩|⟨k1,_⟩
    ·have e1:(vs.drop k).take 1= [vs[k]]:=by rw [List.drop_eq_getElem_cons hlt];rfl
     rw [e1] at k1
     have hcv:cs[k]?=some (cs[k]'(by omega)):=by simp
     have g3: ∀w',OldSame w w'→(loadVar t ⟨b,k,none⟩).run P w'= .ok (cs[k]'(by omega)) w':=fun w' hw'=>Abl hc hi hst b k (hw'.cell (by rw [cell_of_row w b k _ e _ h2];exact hcv))
     exact ⟨_,_,k1,(h5 k _ _ (List.getElem?_eq_getElem hlt) hcv).1,fin g3,_,rfl,g3⟩
    ·omega
   ·exact h.elim
  ·exact h.elim
 ·rename_i s x j
  have ht:=ha.t_inv
  cases ht with
  |ip _ _ _ b o c hF hx hcc hl hr=>
   obtain ⟨v',u,k1,k2,k3⟩:=Ah0 (P:=P) hc hi h hx hcc hl hr
   exact ⟨v',u,k1,k2,fin k3,_,rfl,k3⟩
 ·exact h.elim
variable {o:Oper} {e:Env} {a:Act} {R:V×Heap→Prop} {Q:Exit→Act→World→Prop}
theorem Ajf (hc:CxTy P cx) (hg:Good ι F w H) (hs:Sim ι F w H e a) (t:Nat) (x:Operand) (ho:o.op= .load t x) (ht: ∃i,cx.ti.get t=some i) (h:wpQ S (opQ cx o e H) R):
  Still (OldSame w) P R o ι F H w a:=by
 unfold opQ at h
 rw [ho] at h
 simp only at h
 obtain ⟨i,hi⟩:=ht
 obtain ⟨v,u,h1,h2,h3,_⟩:=AgG hc hg hi (Aaa _ _ _ h) (Aal hs x)
 refine ⟨v,H,ι,F,u,h1,hg,.refl ι F H w,h2,fun w' hw'=> ?_⟩
 simp [execOp,ho,h3 w' hw']
end
end Go.Eva
namespace Go.Eva
open Go.RowKit
section
variable {P:Program} {cx:Cx} {S:Task→(Res→Prop)→Prop} {w:World} {ι:Io} {F:Nat→Prop} {H:Heap}
theorem AfQ {b off sz:Nat} {xs:List T} {c:Nat→Nat→Value} {n:Nat} {cap:Nat} (hF:F b)
  (h1: ∀i j,i<xs.length→j<sz→w.cell? ⟨b,i*sz+j,none⟩=some (c i j)∧(c i j).oneCell'=true) (h2: ∀(i:Nat) x,xs[i]?=some x→x≠ .any→x.cells.length=sz)
  (h3: ∀(i j:Nat) x t,xs[i]?=some x→x≠ .any→x.cells[j]?=some t→TR F w t (c i j)) (hn:n=((xs.drop off).take n).length) (hcap:n≤cap) (h0:n≠0):
  TR F w (.sl sz ((xs.drop off).take n)) (.slice (some ⟨b,off*sz,none⟩) n cap):=by
 have hle:n+off≤xs.length:=by simp at hn;omega
 have:=TR.slC (F:=F) (w:=w) sz ((xs.drop off).take n) b (off*sz) cap (fun i j=>c (off+i) j) (by intro e;rw [e] at hn;simp at hn;exact h0 hn) (by rw [←hn];exact hcap) hF ?_ ?_ ?_
 ·rw [←hn] at this;exact this
 ·intro i j hi hj
  rw [←hn] at hi
  have:=h1 (off+i) j (by omega) hj
  rw [Nat.add_mul] at this
  simpa [Nat.add_assoc] using this
 ·intro i x hx hne
  rw [List.getElem?_take] at hx
  split at hx
  ·rw [List.getElem?_drop] at hx;exact h2 _ x hx hne
  ·contradiction
 ·intro i j x t hx hne ht
  rw [List.getElem?_take] at hx
  split at hx
  ·rw [List.getElem?_drop] at hx;exact h3 _ j x t hx hne ht
  ·contradiction
theorem fl_of {l:List Nat} {id:Nat} {o:Ob} {b:Nat} (hm:mem l id=true) (ho:H[id]?=some o) (hd:o.isDead=false) (hb:ι id=some b):F b∨Fl ι H l b:=
 .inr ⟨id,o,AcX.1 hm,ho,hd,hb⟩
theorem fz_ok (hg:Good ι F w H) (l:List Nat): ∀(n:Nat),(∀(v:V) (x:T) (u:Value),fz l H n v=some x→VR ι F w H v u→TR (fun b=>F b∨Fl ι H l b) w x u∧(v≠ .t .any→x≠ .any))∧
  (∀(vs:List V) (xs:List T),fzs l H n vs=some xs→xs.length=vs.length∧ ∀(i:Nat) v x u,vs[i]?=some v→xs[i]?=some x→VR ι F w H v u→TR (fun b=>F b∨Fl ι H l b) w x u):=by
 have up: ∀ {x:T} {u:Value},TR F w x u→TR (fun b=>F b∨Fl ι H l b) w x u:=fun h=>h.mono (fun _ h=> .inl h) (fun _ _=>rfl)
 intro n
 induction n with
 |zero=>exact ⟨fun v x u h=>by simp [fz] at h,fun vs xs h=>by simp [fzs] at h⟩
 |succ n ih=>
  obtain ⟨ih1,ih2⟩:=ih
  refine ⟨?_,?_⟩
  ·intro v x u h hv
   cases v with
   |t y=>simp [fz] at h;subst h;exact ⟨up hv.t_inv,fun hn e=>hn (by rw [e])⟩
   |nil=>simp [fz] at h
   |fit s xs=>simp [fz] at h;subst h;cases hv with|fit _ _ a h=>exact ⟨up h,fun _=>by simp⟩
   |tup vs=>simp [fz] at h
   |all id lim=>
    simp only [fz,Aaj] at h
    split at h
    ·rename_i s xs sp ro hm ho
     simp at h;subst h
     refine ⟨?_,fun _=>by simp⟩
     cases hv with
     |all _ _ _ hs=>
     unfold OwnSl at hs
     rw [ho] at hs
     obtain ⟨a,cap,rfl,hcap,hoff,hcase⟩:=hs
     simp only [Option.getD_none] at*
     obtain ⟨h0,hblk⟩:=hg.obj id _ ho
     rcases hblk with ⟨hi,rfl,_⟩|⟨b,cs,e,hi,hh,h3,h4,h5,h6,c,g1,g2,g3⟩
     ·exact .slN _ _ _
     ·rw [hi] at hcase
      by_cases hx:xs.length=0
      ·have:xs= []:=by cases xs with|nil=>rfl|cons _ _=>simp at hx
       subst this
       exact .slN _ _ _
      ·have ha:a=some ⟨b,0*s,none⟩:=hcase.1.resolve_left (by omega)
       subst ha
       have:=AfQ (F:=fun b=>F b∨Fl ι H l b) (w:=w) (off:=0) (n:=xs.length) (cap:=cap) (fl_of hm ho rfl hi) g1 g2 (fun i j x t hx hne ht=>up (g3 i j x t hx hne ht)) (by simp) hcap hx
       simpa using this
    ·contradiction
   |sl id off len lim=>
    simp only [fz,Aaj] at h
    split at h
    ·rename_i s xs sp ro hm ho
     simp at h;subst h
     refine ⟨?_,fun _=>by simp⟩
     cases hv with
     |sl _ _ _ _ _ hs=>
     unfold OwnSl at hs
     rw [ho] at hs
     obtain ⟨a,cap,rfl,hcap,hoff,hcase⟩:=hs
     simp only [Option.getD_some] at*
     obtain ⟨h0,hblk⟩:=hg.obj id _ ho
     have hlen:((xs.drop off).take len).length=len:=by simp;omega
     by_cases hx:len=0
     ·subst hx
      simp only [List.take_zero]
      exact .slN _ _ _
     ·rcases hblk with ⟨hi,rfl,_⟩|⟨b,cs,e,hi,hh,h3,h4,h5,h6,c,g1,g2,g3⟩
      ·simp at hoff;omega
      ·rw [hi] at hcase
       have ha:a=some ⟨b,off*s,none⟩:=hcase.1.resolve_left (by omega)
       subst ha
       exact AfQ (F:=fun b=>F b∨Fl ι H l b) (w:=w) (off:=off) (n:=len) (cap:=cap) (fl_of hm ho rfl hi) g1 g2 (fun i j x t hx hne ht=>up (g3 i j x t hx hne ht)) hlen.symm hcap hx
    ·contradiction
   |ptr id i j=>
    simp only [fz,Aaj] at h
    split at h
    ·rename_i s v ro hm ho
     split at h
     ·rename_i y hy
      simp at h;subst h
      refine ⟨?_,fun _=>by simp⟩
      cases hv with
      |ptr _ _ _ _ hp=>
      unfold OwnPtr at hp
      rw [ho] at hp
      obtain ⟨b,hb,rfl⟩:=hp
      obtain ⟨h1,h2,b',val,e,h3,h4,h5,h6,h7⟩:=hg.obj id _ ho
      rw [hb] at h3
      obtain rfl:=Option.some.inj h3
      obtain ⟨ht,hne⟩:=ih1 v y val hy h5
      have hne:=hne h1
      obtain ⟨k1,k2⟩:=ht.cells hne
      have:=TR.ip (F:=fun b=>F b∨Fl ι H l b) (w:=w) s y j b 0 (fun j=>val.cells.getD j undef) (fl_of hm ho rfl hb) hne ?_ (by rw [k1,h6]) ?_
      ·simpa using this
      ·intro j hj
       have hj':j<val.cells.size:=by omega
       have hget:val.cells[j]?=some val.cells[j]:=by simp
       refine ⟨?_,?_⟩
       ·rw [cell_of_row w b _ _ e _ h4];simp [hj']
       ·have:=h7 j _ hget;simpa [hj'] using this
      ·intro j t ht'
       have hj:j<val.cells.size:=by rw [←k1];exact (List.getElem?_eq_some_iff.1 ht').1
       have hget:val.cells[j]?=some val.cells[j]:=by simp
       have:=k2 j t _ ht' hget
       simpa [hj] using this
     ·contradiction
    ·contradiction
   |clo f cs=>
    simp only [fz] at h
    split at h
    ·rename_i l' hl
     simp at h;subst h
     refine ⟨?_,fun _=>by simp⟩
     obtain ⟨k1,k2⟩:=ih2 cs l' hl
     cases hv with
     |clo _ _ vs hn hc=>
      refine .clo f l' vs (k1.trans hn) ?_
      intro i x v hx hv
      have hlt:i<cs.length:=by rw [←k1];exact (List.getElem?_eq_some_iff.1 hx).1
      exact k2 i _ x v (List.getElem?_eq_getElem hlt) hx (hc i _ v (List.getElem?_eq_getElem hlt) hv)
    ·contradiction
   |agg cs=>
    simp only [fz] at h
    split at h
    ·rename_i l' hl
     simp at h;subst h
     refine ⟨?_,fun _=>by simp⟩
     obtain ⟨k1,k2⟩:=ih2 cs l' hl
     cases hv with
     |agg _ vs hn h1 hc=>
      refine .agg l' vs (k1.trans hn) h1 ?_
      intro i x v hx hv
      have hlt:i<cs.length:=by rw [←k1];exact (List.getElem?_eq_some_iff.1 hx).1
      exact k2 i _ x v (List.getElem?_eq_getElem hlt) hx (hc i _ v (List.getElem?_eq_getElem hlt) hv)
    ·contradiction
  ·intro vs xs h
   cases vs with
   |nil=>simp [fzs] at h;subst h;exact ⟨rfl,by simp⟩
   |cons v r=>
    simp only [fzs] at h
    split at h
    ·rename_i x l' hx hl
     simp at h;subst h
     obtain ⟨k1,k2⟩:=ih2 r l' hl
     refine ⟨by simp [k1],?_⟩
     intro i y z u hy hz hu
     cases i with
     |zero=>simp at hy hz;subst hy;subst hz;exact (ih1 v _ u hx hu).1
     |succ i=>simp at hy hz;exact k2 i y z u hy hz hu
    ·contradiction
mutual
theorem pinT_ok: ∀ {v:V} {x:T} {u:Value},pinT v=some x→VR ι F w H v u→TR F w x u∧(v≠ .t .any→x≠ .any)
 | .t y,x,u,h,hv=>by simp [pinT] at h;subst h;cases hv with|t _ _ h=>exact ⟨h,fun h e=>h (by rw [e])⟩
 | .fit s [],x,u,h,hv=>by simp [pinT] at h;subst h;cases hv with|fit _ _ a _=>exact ⟨.nul a,fun _=>by simp⟩
 | .agg vs,x,u,h,hv=>by
  unfold pinT at h
  split at h
  ·rename_i l hl
   simp at h;subst h
   cases hv with
   |agg _ cs hn h1 hc=>
    obtain ⟨k1,k2⟩:=pinTs_ok hl
    exact ⟨.agg _ _ (by omega) h1 fun i y c hy hcc=>by
     have hi:i<vs.length:=by have:=(List.getElem?_eq_some_iff.1 hy).1;omega
     exact k2 i _ y c (List.getElem?_eq_getElem hi) hy (hc i _ c (List.getElem?_eq_getElem hi) hcc),fun _=>by simp⟩
  ·contradiction
 | .nil,_,_,h,_=>by simp [pinT] at h
 | .fit _ (_::_),_,_,h,_=>by simp [pinT] at h
 | .all _ _,_,_,h,_=>by simp [pinT] at h
 | .sl _ _ _ _,_,_,h,_=>by simp [pinT] at h
 | .ptr _ _ _,_,_,h,_=>by simp [pinT] at h
 | .clo _ _,_,_,h,_=>by simp [pinT] at h
 | .tup _,_,_,h,_=>by simp [pinT] at h
theorem pinTs_ok: ∀ {vs:List V} {l:List T},pinTs vs=some l→l.length=vs.length∧ ∀(i:Nat) v x u,vs[i]?=some v→l[i]?=some x→VR ι F w H v u→TR F w x u
 | [],l,h=>by simp [pinTs] at h;subst h;simp
 |v::vs,l,h=>by
  unfold pinTs at h
  split at h
  ·rename_i x l' hx hl
   simp at h;subst h
   obtain ⟨k1,k2⟩:=pinTs_ok hl
   refine ⟨by simp [k1],fun i v' y u hv hy hvr=> ?_⟩
   cases i with
   |zero=>simp at hv hy;subst hv hy;exact (pinT_ok hx hvr).1
   |succ i=>simp at hv hy;exact k2 i v' y u hv hy hvr
  ·contradiction
end
theorem Ah8 (hg:Good ι F w H) {v:V} {u:Value} {R:T×Heap→Prop} (h:wpQ S (toT v H) R) (hv:VR ι F w H v u):
  ∃x H' F',R (x,H')∧Good ι F' w H'∧Step ι F H w ι F' H' w∧TR F' w x u∧(v≠ .t .any→x≠ .any):=by
 have gen:wpQ S ((forceN (reach H 200 v.ids [])).bind fun l=>match fz l H depth v with
  |some x=> .norm x fun x=> .ret (x,roAll 0 l H)
  |none=> .fail) R→ ∃x H' F',R (x,H')∧Good ι F' w H'∧Step ι F H w ι F' H' w∧TR F' w x u∧(v≠ .t .any→x≠ .any):=by
  intro h
  have h1:=Abn (Aaa _ _ _ h)
  generalize reach H 200 v.ids []=l at h1
  cases hf:fz l H depth v with
  |none=>rw [hf] at h1;exact h1.elim
  |some x=>
   rw [hf] at h1
   obtain ⟨k1,k2⟩:=(fz_ok hg l depth).1 v x u hf hv
   obtain ⟨g1,g2⟩:=AiV hg l
   exact ⟨x,_,_,h1,g1,g2,k1,k2⟩
 cases v with
 |t x=>exact ⟨x,H,F,h,hg,.refl ι F H w,hv.t_inv,fun hn e=>hn (by rw [e])⟩
 |fit s xs=>cases hv with|fit _ _ a hv=>exact ⟨_,H,F,h,hg,.refl ι F H w,hv,fun _=>by simp⟩
 |_=>exact gen h
theorem zT_ok (hg:Good ι F w H) {b:Bool} {v:V} {u:Value} {R:T×Heap→Prop} (h:wpQ S (zT b v H) R) (hv:VR ι F w H v u):
  ∃x H' F',R (x,H')∧Good ι F' w H'∧Step ι F H w ι F' H' w∧TR F' w x u∧(v≠ .t .any→x≠ .any):=by
 unfold zT at h
 split at h
 ·split at h
  ·rename_i x hx
   obtain ⟨k1,k2⟩:=pinT_ok hx hv
   exact ⟨x,H,F,h,hg,.refl ι F H w,k1,k2⟩
  ·exact h.elim
 ·exact Ah8 hg h hv
theorem VR.shape {v:V} {u:Value} (h:VR ι F w H v u) (hv:v≠ .t .any) (ha:alive H v=true):v.cells.length=u.cells.size∧ ∀(i:Nat) c,u.cells[i]?=some c→c.oneCell'=true:=by
 have one: ∀ {c:Value},c.oneCell'=true→c.cells= #[c]:=by intro c hc;cases c<;>simp_all [Value.oneCell',Value.cells]
 have fin: ∀ {c:Value},c.oneCell'=true→(1=c.cells.size∧ ∀(i:Nat) d,c.cells[i]?=some d→d.oneCell'=true):=by
  intro c hc
  rw [one hc]
  refine ⟨rfl,fun i d hd=> ?_⟩
  cases i<;>simp at hd;subst hd;exact hc
 have thr: ∀ {id},there H id=true→(∃s v ro,H[id]?=some (.one s v ro))∨(∃s xs sp ro,H[id]?=some (.arr s xs sp ro))∨ ∃vs,H[id]?=some (.vec vs):=by
  intro id ht
  unfold there at ht
  simp only [Aaj] at ht
  split at ht
  ·rename_i s v ro h;exact .inl ⟨s,v,ro,h⟩
  ·rename_i s xs sp ro h;exact .inr (.inl ⟨s,xs,sp,ro,h⟩)
  ·rename_i vs h;exact .inr (.inr ⟨vs,h⟩)
  ·contradiction
 have sl: ∀ {id off:Nat} {n lim:Option Nat},there H id=true→OwnSl ι w H id off n lim u→u.oneCell'=true:=by
  intro id off n lim ht hs
  unfold OwnSl at hs
  rcases thr ht with ⟨s,v,ro,h⟩|⟨s,xs,sp,ro,h⟩|⟨vs,h⟩
  ·rw [h] at hs;exact hs.elim
  ·rw [h] at hs;obtain ⟨a,cap,rfl,_⟩:=hs;rfl
  ·rw [h] at hs;obtain ⟨a,cap,b,rfl,_⟩:=hs;rfl
 cases h with
 |t x v h=>
  have hx:x≠ .any:=fun e=>hv (by rw [e])
  rw [V.cells_t]
  refine ⟨by simpa using (h.cells hx).1,?_⟩
  cases h with
  |any=>exact absurd rfl hx
  |agg vs cs hl h1 hc=>exact h1
  |pin v h=>exact (fin h).2
  |_=>exact (fin rfl).2
 |nil=>exact fin rfl
 |fit sz xs a h=>exact fin rfl
 |all id lim v h=>exact fin (sl ha h)
 |sl id off len lim v h=>exact fin (sl ha h)
 |ptr id i j v h=>
  refine fin ?_
  unfold OwnPtr at h
  rcases thr ha with ⟨s,v,ro,h'⟩|⟨s,xs,sp,ro,h'⟩|⟨vs,h'⟩
  ·rw [h'] at h;obtain ⟨b,_,rfl⟩:=h;rfl
  ·rw [h'] at h;obtain ⟨_,b,_,rfl⟩:=h;rfl
  ·rw [h'] at h;obtain ⟨_,_,b,_,rfl⟩:=h;rfl
 |clo f cs vs hl hc=>exact fin rfl
 |agg vs cs hl h1 hc=>exact ⟨hl,h1⟩
 |tup vs cs hl hc=>simp [alive] at ha
theorem Afz (cur:Array Value) (o:Nat) (vs:List Value) (h:o+vs.length≤cur.size) (i:Nat):
  ((cur.toList.take o++vs++cur.toList.drop (o+vs.length)).toArray)[i]?=if o≤i∧i<o+vs.length then vs[i-o]? else cur[i]?:=by
 rw [List.getElem?_toArray,List.append_assoc,List.getElem?_append]
 have hl:(cur.toList.take o).length=o:=by simp;omega
 rw [hl]
 by_cases h1:i<o
 ·rw [if_pos h1,if_neg (by omega),List.getElem?_take_of_lt h1];simp
 ·rw [if_neg h1,List.getElem?_append]
  by_cases h2:i-o<vs.length
  ·rw [if_pos h2,if_pos (by omega)]
  ·rw [if_neg h2,if_neg (by omega),List.getElem?_drop]
   have:o+vs.length+(i-o-vs.length)=i:=by omega
   rw [this];simp
theorem AeA (cur:Array Value) (o:Nat) (vs:List Value) (h:o+vs.length≤cur.size):((cur.toList.take o++vs++cur.toList.drop (o+vs.length)).toArray).size=cur.size:=by
 simp;omega
theorem AeH (hc:CxTy P cx) {t:Nat} {i:TI} (hi:cx.ti.get t=some i) {b o:Nat} {u:Value} {cur:Array Value} {e:TypeId} (hb:w.heap[b]?=some (.cells cur e (0,0)))
  (hsz:u.cells.size=sizeOf cx t) (hfit:o+u.cells.size≤cur.size) (h1: ∀(i:Nat) c,u.cells[i]?=some c→c.oneCell'=true):
  (Instr.storeAt t (.pointer (some ⟨b,o,none⟩)) u).run P w= .ok () (w.setRow b (cur.toList.take o++u.cells.toList++cur.toList.drop (o+u.cells.toList.length)).toArray):=by
 have hst:=run_storeCells_at P b o e u.cells.toList 0 cur w hb (by simpa using hfit) (by
  intro v hv
  obtain ⟨i,hi,rfl⟩:=List.getElem_of_mem hv
  exact h1 i _ (by simp at hi⊢))
 simp only [Nat.add_zero] at hst
 simp only [Instr.storeAt,Instr.sureAddr,storeVar,Sem.run_bind,Sem.run_pure,Result.andThen_ok,Aav hc hi,hsz,ne_eq,not_true_eq_false,if_false]
 exact hst
end
end Go.Eva
namespace Go.Eva
open Go.RowKit
section
variable {P:Program} {cx:Cx} {S:Task→(Res→Prop)→Prop} {w:World} {ι:Io} {F:Nat→Prop} {H:Heap}
theorem AjG {c:Value} (hc:c.oneCell'=true):c.cells= #[c]:=by cases c<;>simp_all [Value.oneCell',Value.cells]
theorem AkB {cx:Cx} {t s j:Nat} {old v:V} {val u:Value} {R:V→Prop} (h:wpQ S (putV cx t s old j v) R) (hov:VR ι F w H old val) (hon:old≠ .t .any) (hos:old.size=s) (hvs:val.cells.size=s)
  (hone: ∀(i:Nat) c,val.cells[i]?=some c→c.oneCell'=true) (hv:VR ι F w H v u) (hvn:v≠ .t .any) (hvz:v.size=sizeOf cx t) (huz:u.cells.size=sizeOf cx t) (hu1: ∀(i:Nat) c,u.cells[i]?=some c→c.oneCell'=true)
  (hfit:j+v.size≤s):
  ∃v' val',R v'∧VR ι F w H v' val'∧v'≠ .t .any∧v'.size=s∧val'.cells.size=s∧(∀(i:Nat) c,val'.cells[i]?=some c→c.oneCell'=true)∧
   val'.cells=(val.cells.toList.take j++u.cells.toList++val.cells.toList.drop (j+u.cells.toList.length)).toArray:=by
 have hcv:=hov.cells hon
 have hcu:=hv.cells hvn
 have hlv:old.cells.length=val.cells.size:=by rw [hvs,←hos];rfl
 have hlu:v.cells.length=u.cells.size:=by rw [huz,←hvz];rfl
 have hfit':j+u.cells.toList.length≤val.cells.size:=by
  have:v.cells.length=v.size:=rfl
  simp;omega
 have hget:=Afz val.cells j u.cells.toList hfit'
 have hsize:=AeA val.cells j u.cells.toList hfit'
 generalize hnew:(val.cells.toList.take j++u.cells.toList++val.cells.toList.drop (j+u.cells.toList.length)).toArray=new at*
 have hn1: ∀(i:Nat) c,new[i]?=some c→c.oneCell'=true:=by
  intro i c hc
  rw [hget] at hc
  split at hc
  ·exact hu1 (i-j) c (by simpa using hc)
  ·exact hone i c hc
 have hov':=Ads old.cells j v.cells (by have:v.cells.length=v.size:=rfl;have:old.cells.length=old.size:=rfl;omega)
 have hol:=Adz old.cells j v.cells (by have:v.cells.length=v.size:=rfl;have:old.cells.length=old.size:=rfl;omega)
 have hcell: ∀(i:Nat) x c,(over old.cells j v.cells)[i]?=some x→new[i]?=some c→VR ι F w H x c:=by
  intro i x c hx hc
  rw [hov'] at hx
  rw [hget] at hc
  simp only [Array.length_toList] at hc
  by_cases hin:j≤i∧i<j+v.cells.length
  ·rw [if_pos hin] at hx
   rw [if_pos (by omega)] at hc
   exact hcu (i-j) x c hx (by simpa using hc)
  ·rw [if_neg hin] at hx
   rw [if_neg (by omega)] at hc
   exact hcv i x c hx hc
 unfold putV at h
 split at h
 ·rename_i hw
  simp only [Bool.and_eq_true,Bool.not_eq_true'] at hw
  have hj:=Nat.eq_of_beq_eq_true hw.1.1.2
  have hs:=Nat.eq_of_beq_eq_true hw.1.2
  subst hj
  refine ⟨v,u,Aat h,hv,hvn,by omega,by omega,hu1,?_⟩
  apply Array.ext_getElem?
  intro i
  rw [hget]
  simp only [Array.length_toList]
  by_cases hi:i<u.cells.size
  ·rw [if_pos (by omega)];simp
  ·rw [if_neg (by omega),Array.getElem?_eq_none (by omega),Array.getElem?_eq_none (by omega)]
 ·rename_i hnw
  have hlen:(over old.cells j v.cells).length=s:=by rw [hol];exact hos
  have h1:wpQ S ((fun l=>match (generalizing:=false) old with
   | .t (.agg _)=>force (mkAgg l)
   | .agg _=>force (mkAgg l)
   |_=>match l with
    | [.t .any]=> .fail
    | [v]=> .ret v
    |_=> .fail) (over old.cells j v.cells)) R:=by
   rcases AcU (Aaa _ _ _ h) with ⟨h1,h2⟩|⟨h1,h2⟩
   ·have hfull:((over old.cells j v.cells).drop 0).take s=over old.cells j v.cells:=by
     rw [List.drop_zero,List.take_of_length_le (by omega)]
    rw [hfull] at h1
    exact h1
   ·have:over old.cells j v.cells= []:=by
     cases hq:over old.cells j v.cells with
     |nil=>rfl
     |cons _ _=>rw [hq] at hlen;simp at hlen;omega
    rw [this]
    exact h2
  simp only at h1
  have hnl:(over old.cells j v.cells).length=new.size:=by omega
  have agg:wpQ S (force (mkAgg (over old.cells j v.cells))) R→ ∃v' val',R v'∧VR ι F w H v' val'∧v'≠ .t .any∧v'.size=s∧val'.cells.size=s∧(∀(i:Nat) c,val'.cells[i]?=some c→c.oneCell'=true)∧val'.cells=new:=by
   intro h
   refine ⟨_,.agg new,Aat h,Ado hnl hn1 hcell,?_,?_,by show new.size=s;omega,hn1,rfl⟩
   ·unfold mkAgg;split<;>simp
   ·have:(mkAgg (over old.cells j v.cells)).cells=over old.cells j v.cells:=by
     unfold mkAgg
     split
     ·rename_i l hl;rw [AbG hl];rfl
     ·rfl
    unfold V.size
    rw [this,hol]
    exact hos
  split at h1
  ·exact agg h1
  ·exact agg h1
  ·rename_i hno1 hno2
   split at h1
   ·exact h1.elim
   ·rename_i y hya hy
    have hs1:s=1:=by rw [←hlen,hy];rfl
    have hnew1:new.size=1:=by omega
    have hc0:new[0]?=some new[0]:=by simp
    have hvr:=hcell 0 y _ (by rw [hy];rfl) hc0
    have h1c:=hn1 0 _ hc0
    have hcc:(new[0]).cells=new:=by
     rw [AjG h1c]
     apply Array.ext_getElem?
     intro i
     cases i with
     |zero=>simp
     |succ i=>rw [Array.getElem?_eq_none (by simp),Array.getElem?_eq_none (by omega)]
    have hyn:y≠ .t .any:=fun e=>hya e
    have hys:y.size=1:=by
     generalize hq:new[0]=q at hvr h1c
     unfold V.size
     cases hvr with
     |t x v h=>
      rw [V.cells_t]
      cases h<;>first|rfl|(simp [Value.oneCell'] at h1c)
     |agg=>simp [Value.oneCell'] at h1c
     |_=>rfl
    exact ⟨y,new[0],h1,hvr,hyn,by rw [hys,hs1],by rw [hcc];omega,by rw [hcc];exact hn1,hcc⟩
   ·exact h1.elim
theorem AkH {cx:Cx} {t s j:Nat} {old x:T} {c:Nat→Value} {u:Value} {R:T→Prop} (h:wpQ S (putT cx t s old j x) R) (hon:old≠ .any) (hos:old.cells.length=s) (hs0:0<s)
  (hcv: ∀(i:Nat) t,old.cells[i]?=some t→TR F w t (c i)) (hone: ∀i,i<s→(c i).oneCell'=true) (hx:TR F w x u) (hxn:x≠ .any) (hxz:x.cells.length=sizeOf cx t) (huz:u.cells.size=sizeOf cx t)
  (hu1: ∀(i:Nat) c,u.cells[i]?=some c→c.oneCell'=true) (hfit:j+x.cells.length≤s):
  ∃y,R y∧y≠ .any∧y.cells.length=s∧ ∀(i:Nat) t,y.cells[i]?=some t→TR F w t (if j≤i∧i<j+u.cells.size then u.cells.getD (i-j) undef else c i):=by
 obtain ⟨hlu,hcu⟩:=hx.cells hxn
 have hov':=Ads old.cells j x.cells (by omega)
 have hol:=Adz old.cells j x.cells (by omega)
 have hcell: ∀(i:Nat) t,(over old.cells j x.cells)[i]?=some t→TR F w t (if j≤i∧i<j+u.cells.size then u.cells.getD (i-j) undef else c i):=by
  intro i t ht
  rw [hov'] at ht
  by_cases hin:j≤i∧i<j+x.cells.length
  ·rw [if_pos hin] at ht
   rw [if_pos (by omega)]
   have hlt:i-j<u.cells.size:=by omega
   have hg:u.cells[i-j]?=some u.cells[i-j]:=by simp
   have:=hcu (i-j) t _ ht hg
   simpa [hlt] using this
  ·rw [if_neg hin] at ht
   rw [if_neg (by omega)]
   exact hcv i t ht
 unfold putT at h
 split at h
 ·rename_i hw
  simp only [Bool.and_eq_true,Bool.not_eq_true'] at hw
  have hj:=Nat.eq_of_beq_eq_true hw.1.1.2
  have hs:=Nat.eq_of_beq_eq_true hw.1.2
  subst hj
  refine ⟨x,h,hxn,by omega,?_⟩
  intro i t ht
  have hlt:i<x.cells.length:=(List.getElem?_eq_some_iff.1 ht).1
  have hlt':i<u.cells.size:=by omega
  rw [if_pos (by omega)]
  have hg:u.cells[i]?=some u.cells[i]:=by simp
  have:=hcu i t _ ht hg
  simpa [hlt'] using this
 ·have hlen:(over old.cells j x.cells).length=s:=by rw [hol];exact hos
  rcases Ahk (Aaa _ _ _ h) with ⟨h1,h2⟩|⟨h1,h2⟩
  ·have hfull:((over old.cells j x.cells).drop 0).take s=over old.cells j x.cells:=by
    rw [List.drop_zero,List.take_of_length_le (by omega)]
   rw [hfull] at h1
   split at h1
   ·exact ⟨_,h1,by simp,hlen,hcell⟩
   ·rename_i hno
    split at h1
    ·exact h1.elim
    ·rename_i y hya hy
     have hs1:s=1:=by rw [←hlen,hy];rfl
     have hyn:y≠ .any:=fun e=>hya e
     have h0:=hcell 0 y (by rw [hy];rfl)
     have h1c:(if j≤0∧0<j+u.cells.size then u.cells.getD (0-j) undef else c 0).oneCell'=true:=by
      split
      ·rename_i hin
       have hlt:0-j<u.cells.size:=by omega
       have hg:u.cells[0-j]?=some u.cells[0-j]:=by simp
       have:=hu1 _ _ hg
       have e:u.cells.getD (0-j) undef=u.cells[0-j]:=by unfold Array.getD;rw [dif_pos hlt];rfl
       rw [e]
       exact this
      ·exact hone 0 (by omega)
     have hyc:y.cells= [y]:=by
      apply T.cells_one
      intro vs e
      subst e
      generalize (if j≤0∧0<j+u.cells.size then u.cells.getD (0-j) undef else c 0)=q at h0 h1c
      cases h0
      simp [Value.oneCell'] at h1c
     refine ⟨y,h1,hyn,by rw [hyc,hs1];rfl,?_⟩
     rw [hyc,←hy]
     exact hcell
    ·exact h1.elim
  ·omega
end
end Go.Eva
namespace Go.Eva
open Go.RowKit
section
variable {P:Program} {cx:Cx} {S:Task→(Res→Prop)→Prop} {w:World} {ι:Io} {F:Nat→Prop} {H:Heap}
theorem AdQ (hg:Good ι F w H) {id b:Nat} {o o':Ob} {cur new:Array Value} {e:TypeId} (ho:H[id]?=some o) (hr:o.ro=false) (hb:ι id=some b) (hh:w.heap[b]?=some (.cells cur e (0,0)))
  (hlike:Like ι ι w (w.setRow b new) id o o') (hro:o'.isDead=false→o'.ro=o.ro)
  (hob:(∀i oi,H[i]?=some oi→ ∃o'',(H.set id o')[i]?=some o''∧Like ι ι w (w.setRow b new) i oi o'')→(∀b',F b'→(w.setRow b new).heap[b']?=w.heap[b']?)→ObR ι F (w.setRow b new) (H.set id o') id o'):
  Good ι F (w.setRow b new) (H.set id o')∧Step ι F H w ι F (H.set id o') (w.setRow b new):=by
 refine Ahh hg ho rfl rfl rfl (by simp) ?_ hlike hro (fun hl=>hob hl ?_)
 ·intro b' hb'
  refine setRow_other w b b' new ?_
  intro e
  subst e
  rcases hb' with h|h
  ·rw [hr] at h;contradiction
  ·exact h hb
 ·intro b' hf
  refine setRow_other w b b' new ?_
  intro e
  subst e
  exact hg.sep b' ⟨id,o,ho,hr,hb⟩ hf
theorem AdC {α:Type} {b:Bool} {q:Q α} {R:α→Prop} (h:wpQ S (onlyIf b q) R):b=true∧wpQ S q R:=by
 cases b with
 |true=>exact ⟨rfl,h⟩
 |false=>exact h.elim
theorem AjJ {v:V} (h:notAny v=true):v≠ .t .any:=by rintro rfl;simp [notAny] at h
theorem AjW {size s j:Nat} {v:V} (h:fitsV size s j v=true):v.size=size∧j+v.size≤s∧v≠ .t .any:=by
 simp only [fitsV,Bool.and_eq_true] at h
 exact ⟨Nat.eq_of_beq_eq_true h.1.1,Nat.le_of_ble_eq_true h.1.2,AjJ h.2⟩
theorem Akc {size s j:Nat} {x:T} (h:fitsT size s j x=true):x.cells.length=size∧j+x.cells.length≤s∧x≠ .any:=by
 simp only [fitsT,Bool.and_eq_true] at h
 refine ⟨Nat.eq_of_beq_eq_true h.1.1,Nat.le_of_ble_eq_true h.1.2,?_⟩
 rintro rfl
 simp [notAny] at h
theorem Ai9 (hc:CxTy P cx) (hg:Good ι F w H) {t:Nat} {i:TI} (hi:cx.ti.get t=some i) {a v:V} {av u:Value} {R:Heap→Prop} (h:wpQ S (storeAt cx t a v H) R) (ha:VR ι F w H a av) (hv:VR ι F w H v u):
  ∃H' F' w',R H'∧Good ι F' w' H'∧Step ι F H w ι F' H' w'∧(Instr.storeAt t av u).run P w= .ok () w':=by
 unfold storeAt at h
 split at h
 ·rename_i id k j
  rw [Aaj] at h
  split at h
  ·rename_i s old ho
   split at h
   ·split at h
    ·rename_i hal
     obtain ⟨hsz,hfit,hne⟩:=AjW (AdC h).1
     replace h:=(AdC h).2
     obtain ⟨h1,h2,b,val,e,h3,h4,h5,h6,h7⟩:=hg.obj id _ ho
     cases ha with
     |ptr _ _ _ _ hp=>
     unfold OwnPtr at hp
     rw [ho] at hp
     obtain ⟨b',hb',rfl⟩:=hp
     rw [h3] at hb'
     obtain rfl:=Option.some.inj hb'
     obtain ⟨g1,g2⟩:=hv.shape hne hal
     have huz:u.cells.size=sizeOf cx t:=by rw [←g1,←hsz];rfl
     obtain ⟨v',val',k1,k2,k3,k4,k5,k6,k7⟩:=AkB (Aaa _ _ _ h) h5 h1 h2 h6 h7 hv hne hsz huz g2 hfit
     obtain ⟨hid,k1⟩:=Abj k1
     have hrun:=AeH (P:=P) hc hi h4 huz (by omega) g2 (o:=j)
     rw [←k7] at hrun
     obtain ⟨q1,q2⟩:=AdQ hg (o':= .one s v' false) ho rfl h3 h4 (.inr ⟨rfl,v',false,rfl⟩) (fun _=>rfl) (fun hl hf=>
      ⟨k3,k4,b,val',e,h3,setRow_heap w b _ _ _ _ h4,k2.mono (fun _ h=>h) hf hl,k5,k6⟩)
     exact ⟨_,F,_,k1,q1,q2,hrun⟩
    ·exact h.elim
   ·exact h.elim
  ·rename_i s xs0 sp0 ho
   obtain ⟨x,H1,F1,t1,t2,t3,t4,t5⟩:=Ah8 hg (Aaa _ _ _ h) hv
   simp only [Aaj] at t1
   split at t1
   ·rename_i s' xs sp ho1
    obtain ⟨hsz,hfit,hne⟩:=Akc (AdC t1).1
    replace t1:=(AdC t1).2
    have ha1:=t3.vr hg ha
    cases ha1 with
    |ptr _ _ _ _ hp=>
    unfold OwnPtr at hp
    rw [ho1] at hp
    obtain ⟨hlt,b,hb,rfl⟩:=hp
    obtain ⟨o'',hl1,hl2⟩:=t3.like id _ ho
    rw [ho1] at hl1
    obtain rfl:=Option.some.inj hl1
    have hss:s'=s:=by
     rcases hl2 with h|⟨_,_,xs',sp',ro',he,_⟩
     ·contradiction
     ·injection he
    subst hss
    obtain ⟨h0,hblk⟩:=t2.obj id _ ho1
    rcases hblk with ⟨hi0,rfl,_⟩|⟨b',cs,e,hi1,hh,h3,h4,⟨m,hm⟩,h6,c,g1,g2,g3⟩
    ·simp at hlt
    ·rw [hb] at hi1
     obtain rfl:=Option.some.inj hi1
     obtain ⟨kc1,kc2⟩:=t4.cells hne
     have huz:u.cells.size=sizeOf cx t:=by rw [←kc1,hsz]
     have hu1: ∀(i:Nat) c,u.cells[i]?=some c→c.oneCell'=true:=by
      intro i d hd
      cases t4 with
      |any=>exact absurd rfl hne
      |agg vs ds hl ho hc=>exact ho i d hd
      |pin _ h=>
       have e1:u.cells= #[u]:=(TR.pin (F:=F) (w:=w) u h).one (by simp) (by simp)
       rw [e1] at hd
       cases i<;>simp at hd;subst hd;exact h
      |_=>cases i<;>simp [Value.cells] at hd;subst hd;rfl
     have hk:(k+1)*s'≤xs.length*s':=Nat.mul_le_mul_right _ hlt
     rw [Nat.add_mul,Nat.one_mul] at hk
     have hrun:=AeH (P:=P) hc hi hh huz (by omega) hu1 (o:=k*s'+j)
     have hget:=Afz cs (k*s'+j) u.cells.toList (by simp;omega)
     have hsize:=AeA cs (k*s'+j) u.cells.toList (by simp;omega)
     generalize hnew:(cs.toList.take (k*s'+j)++u.cells.toList++cs.toList.drop (k*s'+j+u.cells.toList.length)).toArray=new at*
     have fin: ∀y,y≠ .any→y.cells.length=s'→(∀(i:Nat) t,y.cells[i]?=some t→TR F1 w t (if j≤i∧i<j+u.cells.size then u.cells.getD (i-j) undef else c k i))→
       Good ι F1 (w.setRow b new) (H1.set id (.arr s' (xs.set k y) sp false))∧Step ι F1 H1 w ι F1 (H1.set id (.arr s' (xs.set k y) sp false)) (w.setRow b new):=by
      intro y hyn hyl hyc
      refine AdQ t2 ho1 rfl hb hh (.inr ⟨rfl,fun b' hb'=> ?_,xs.set k y,sp,false,rfl,by simp⟩) (fun _=>rfl) (fun hl hf=> ?_)
      ·rw [hb] at hb'
       obtain rfl:=Option.some.inj hb'
       unfold blk
       rw [setRow_heap w b _ _ _ _ hh,hh]
       exact hsize
      ·have hnc: ∀n,(w.setRow b new).cell? ⟨b,n,none⟩=new[n]?:=fun n=>cell_of_row _ b n _ e _ (setRow_heap w b _ _ _ _ hh)
       have hoc: ∀n,w.cell? ⟨b,n,none⟩=cs[n]?:=fun n=>cell_of_row _ b n _ e _ hh
       have div: ∀i j',i<xs.length→j'<s'→(k*s'+j≤i*s'+j'∧i*s'+j'<k*s'+j+u.cells.size↔i=k∧j≤j'∧j'<j+u.cells.size):=by
        intro i j' hi hj'
        constructor
        ·rintro ⟨h1,h2⟩
         have hik:i=k:=by
          rcases Nat.lt_trichotomy i k with hlt|rfl|hgt
          ·have:=Nat.mul_le_mul_right s' (show i+1≤k from hlt)
           rw [Nat.add_mul,Nat.one_mul] at this
           omega
          ·rfl
          ·have:=Nat.mul_le_mul_right s' (show k+1≤i from hgt)
           rw [Nat.add_mul,Nat.one_mul] at this
           omega
         subst hik
         omega
        ·rintro ⟨rfl,h1,h2⟩;omega
       refine ⟨h0,.inr ⟨b,new,e,hb,setRow_heap w b _ _ _ _ hh,by simp;omega,by simpa [hsize] using h4,⟨m,by omega⟩,?_,fun i j'=>if i=k∧j≤j'∧j'<j+u.cells.size then u.cells.getD (j'-j) undef else c i j',?_,?_,?_⟩⟩
       ·intro n d hd
        rw [hget] at hd
        split at hd
        ·exact hu1 _ d (by simpa using hd)
        ·exact h6 n d hd
       ·intro i j' hi hj'
        simp at hi
        rw [hnc,hget]
        simp only [Array.length_toList]
        by_cases hin:i=k∧j≤j'∧j'<j+u.cells.size
        ·rw [if_pos ((div i j' hi hj').2 hin),if_pos hin]
         have hlt':j'-j<u.cells.size:=by omega
         have hgg:u.cells[j'-j]?=some u.cells[j'-j]:=by simp
         have hidx:i*s'+j'-(k*s'+j)=j'-j:=by obtain ⟨rfl,_⟩:=hin;omega
         rw [hidx]
         have ed:u.cells.getD (j'-j) undef=u.cells[j'-j]:=by unfold Array.getD;rw [dif_pos hlt'];rfl
         rw [ed]
         exact ⟨by simp [hgg],hu1 _ _ hgg⟩
        ·rw [if_neg (fun hh=>hin ((div i j' hi hj').1 hh)),if_neg hin,←hoc]
         exact g1 i j' hi hj'
       ·intro i x' hx' hne'
        rw [List.getElem?_set] at hx'
        split at hx'
        ·rename_i hik
         subst hik
         simp at hx'
         subst hx'
         exact hyl
        ·exact g2 i x' hx' hne'
       ·intro i j' x' t' hx' hne' ht'
        rw [List.getElem?_set] at hx'
        split at hx'
        ·rename_i hik
         subst hik
         simp at hx'
         subst hx'
         have:=(hyc j' t' ht').mono (F':=F1) (w':=w.setRow b new) (fun _ h=>h) hf
         simpa using this
        ·rename_i hik
         have:=(g3 i j' x' t' hx' hne' ht').mono (F':=F1) (w':=w.setRow b new) (fun _ h=>h) hf
         show TR F1 _ t' (if i=k∧j≤j'∧j'<j+u.cells.size then u.cells.getD (j'-j) undef else c i j')
         rw [if_neg (fun hh=>hik hh.1.symm)]
         exact this
     split at t1
     ·rename_i hw
      simp only [Bool.and_eq_true,Bool.not_eq_true'] at hw
      have hj:=Nat.eq_of_beq_eq_true hw.1.1.2
      have hs:=Nat.eq_of_beq_eq_true hw.1.2
      subst hj
      obtain ⟨_,t1⟩:=t1
      obtain ⟨_,t1⟩:=Abj t1
      obtain ⟨q1,q2⟩:=fin x hne (by omega) (by
       intro i t' ht'
       have hlt':i<u.cells.size:=by rw [←kc1];exact (List.getElem?_eq_some_iff.1 ht').1
       rw [if_pos (by omega)]
       have hgg:u.cells[i]?=some u.cells[i]:=by simp
       have:=kc2 i t' _ ht' hgg
       simpa [hlt'] using this)
      exact ⟨_,F1,_,t1,q1,t3.trans q2,hrun⟩
     ·obtain ⟨old,hold,hon,t1⟩:=t1
      obtain ⟨y,r1,r2,r3,r4⟩:=AkH (c:=c k) (Aaa _ _ _ t1) hon (g2 k old hold hon) h0 (fun i t' ht'=>g3 k i old t' hold hon ht') (fun i hi=>(g1 k i hlt hi).2) t4 hne hsz huz hu1 hfit
      obtain ⟨_,r1⟩:=Abj r1
      obtain ⟨q1,q2⟩:=fin y r2 r3 r4
      exact ⟨_,F1,_,r1,q1,t3.trans q2,hrun⟩
   ·exact t1.elim
  ·exact h.elim
 ·exact h.elim
end
end Go.Eva
namespace Go.Eva
open Go.RowKit
section
variable {P:Program} {cx:Cx} {S:Task→(Res→Prop)→Prop} {w:World} {ι:Io} {F:Nat→Prop} {H:Heap}
variable {o:Oper} {e:Env} {a:Act} {R:V×Heap→Prop} {Q:Exit→Act→World→Prop}
theorem AjT (hc:CxTy P cx) (hg:Good ι F w H) (hs:Sim ι F w H e a) (t:Nat) (x y:Operand) (ho:o.op= .store t x y) (ht: ∃i,cx.ti.get t=some i) (h:wpQ S (opQ cx o e H) R):
  o.wp P a w (OpPost R o ι F H w a) Q:=by
 unfold opQ at h
 rw [ho] at h
 simp only at h
 obtain ⟨i,hi⟩:=ht
 obtain ⟨v,h1,h2⟩:=AbM (Aaa _ _ _ h) (Aal hs y)
 obtain ⟨H',F',w',k1,k2,k3,k4⟩:=Ai9 hc hg hi (Aaa _ _ _ h1) (Aal hs x) h2
 have hrun:(execOp a.eval o).run P w= .ok .skip w':=by
  unfold execOp
  rw [ho]
  show ((Instr.storeAt t (a.eval x) (a.eval y))>>=fun _=>pure Next.skip).run P w=_
  rw [Sem.run_bind,k4]
  rfl
 unfold Oper.wp
 rw [hrun]
 exact ⟨_,H',ι,F',undef,k1,rfl,k2,k3,.tup [] #[] rfl (by simp)⟩
theorem Agy (hg:Good ι F w H) {t:Nat} {v:V} {u:Value} (h:wpQ S (newOne cx t v H) R) (hv:VR ι F w H v u):
  ∃ι' H' v',R (v',H')∧Good ι' F (w.alloc (.cells u.cells t)) H'∧Step ι F H w ι' F H' (w.alloc (.cells u.cells t))∧VR ι' F (w.alloc (.cells u.cells t)) H' v' (.pointer (some ⟨w.heap.size,0,none⟩)):=by
 unfold newOne at h
 split at h
 ·exact h.elim
 ·rename_i v0 _ bb hna hb
  simp only [Bool.and_eq_true] at hb
  have hsz:=Nat.eq_of_beq_eq_true hb.1
  have hne:v0≠ .t .any:=fun e=>hna e
  have h1:=Abz (Aaa _ _ _ h)
  have h2:=Aa5 (Aaa _ _ _ h1)
  obtain ⟨g1,g2⟩:=hv.shape hne hb.2
  have hl:=Adx (ob:= .one (sizeOf cx t) v0 false) (o:= .cells u.cells t (0,0)) (b:=some w.heap.size) hg.lt
  obtain ⟨q1,q2⟩:=Ac6 hg (.one (sizeOf cx t) v0 false) u.cells t rfl
   ⟨hne,hsz,w.heap.size,u,t,by simp [upd],AaL,hv.mono (fun _ h=>h) (fun b hb=>Aay (hg.fin b hb)) hl,by rw [←g1,←hsz];rfl,g2⟩
  refine ⟨_,_,_,h2,q1,q2,.ptr _ _ _ _ ?_⟩
  unfold OwnPtr
  simp only [List.getElem?_append_right (Nat.le_refl _),Nat.sub_self,List.getElem?_cons_zero]
  exact ⟨w.heap.size,by simp [upd],rfl⟩
 ·exact h.elim
theorem Aky (hg:Good ι F w H) (hs:Sim ι F w H e a) (t:Nat) (x:Operand) (ho:o.op= .box t x) (h:wpQ S (opQ cx o e H) R):
  o.wp P a w (fun a' w'=>OpPost R o ι F H w a a' w'∧OldSame w w') Q:=by
 unfold opQ at h
 rw [ho] at h
 simp only at h
 obtain ⟨v,h1,h2⟩:=AbM (Aaa _ _ _ h) (Aal hs x)
 obtain ⟨ι',H',v',k1,k2,k3,k4⟩:=Agy hg h1 h2
 refine AaB ?_ ⟨⟨v',H',ι',F,_,k1,rfl,k2,k3,k4⟩,.alloc w _⟩
 simp [execOp,ho,Instr.box,newVar,newRow]
theorem AhS (hc:CxTy P cx) (hg:Good ι F w H) (t:Nat) (ho:o.op= .alloc t) (h:wpQ S (opQ cx o e H) R):
  o.wp P a w (fun a' w'=>OpPost R o ι F H w a a' w'∧OldSame w w') Q:=by
 unfold opQ at h
 rw [ho] at h
 simp only at h
 split at h
 ·rename_i z hz
  have h1:=Aat (Aaa _ _ _ h)
  have: ∃i,cx.ti.get t=some i:=by
   cases hq:cx.ti.get t with
   |some i=>exact ⟨i,rfl⟩
   |none=>unfold depth zeroV at hz;simp [hq] at hz
  obtain ⟨i,hi⟩:=this
  obtain ⟨inf,d,c1,c2,c3,c4,c5,c6,c7⟩:=hc.ty t i hi
  obtain ⟨zv,d1,d2⟩:=c7
  have d2:=d2 z hz
  obtain ⟨ι',H',v',k1,k2,k3,k4⟩:=Agy hg h1 (d2.1 ι F w H)
  refine AaB ?_ ⟨⟨v',H',ι',F,_,k1,rfl,k2,k3,k4⟩,.alloc w _⟩
  simp [execOp,ho,Instr.alloc,newVar,newRow,zeroValue,typeInfo,c1,d1]
 ·exact h.elim
theorem Afj {α:Type} {v:V} {u:Value} {k:Nat→Eva.Q α} {R:α→Prop} (h:wpQ S (idx v k) R) (hv:VR ι F w H v u): ∃kd n,u= .int kd n∧0≤n∧wpQ S (k n.toNat) R:=by
 unfold idx at h
 split at h
 ·rename_i kd n
  exact ⟨kd,n,hv.t_inv.int_inv,h.1,h.2⟩
 ·exact h.elim
theorem AbU {t el:Nat} (hc:CxTy P cx) (he:elemTy cx t=some el) {p:Addr} {len cap:Nat} {kd:IntKind} {n:Int} (h0:0≤n) (hn:n.toNat<len):
  (Instr.indexAt t (.slice (some p) len cap) (.int kd n)).run P w= .ok (.pointer (some (p.add (n.toNat*sizeOf cx el)))) w:=by
 obtain ⟨h1,i,inf,h2,h3,h4,h5,h6,h7,h8⟩:=Abo hc he
 have hs:=Aav hc h2 w
 have hnn:n<len:=by omega
 simp [Instr.indexAt,run_underlying h1,asIntOf,h0,hnn,hs]
theorem AjK (hc:CxTy P cx) (hg:Good ι F w H) {t el:Nat} (he:elemTy cx t=some el) {v iv:V} {u iu:Value} {R:V→Prop} (h:wpQ S (indexV (sizeOf cx el) v iv H) R) (hv:VR ι F w H v u) (hiv:VR ι F w H iv iu):
  ∃r val,R r∧VR ι F w H r val∧ ∀w,(Instr.indexAt t u iu).run P w= .ok val w:=by
 have tree: ∀(s:Nat) (xs:List T) (len cap:Nat) (p:Option Addr),TR F w (.sl s xs) (.slice p len cap)→Nat.beq s (sizeOf cx el)=true→wpQ S (idx iv fun i=> .get xs i fun x=> .ret (.t (.ip s x 0))) R→
   ∃r val,R r∧VR ι F w H r val∧ ∀w,(Instr.indexAt t (.slice p len cap) iu).run P w= .ok val w:=by
  intro s xs len cap p ht hs h
  have hs:=Nat.eq_of_beq_eq_true hs
  subst hs
  obtain ⟨kd,n,rfl,h0,x,hx,hne,h⟩:=Afj h hiv
  have hlt:n.toNat<xs.length:=(List.getElem?_eq_some_iff.1 hx).1
  cases ht with
  |slN=>simp at hx
  |slC _ _ b oo _ c hn hcap hF hcc hl hr=>
   refine ⟨_,_,h,.t _ _ ?_,fun _=>AbU hc he h0 hlt⟩
   rw [AaD]
   have:=TR.ip (F:=F) (w:=w) (sizeOf cx el) x 0 b (oo+n.toNat*sizeOf cx el) (c n.toNat) hF hne (fun j hj=>by have:=hcc n.toNat j hlt hj;simpa [Nat.add_assoc] using this) (hl _ x hx hne) (fun j t ht=>hr _ j x t hx hne ht)
   simpa using this
 unfold indexV at h
 split at h
 ·rename_i s xs
  split at h
  ·rename_i hs
   have ht:=hv.t_inv
   cases ht with
   |slN=>exact tree _ _ _ _ _ (.slN _ _ _) hs h
   |slC _ _ b oo cap c hn hcap hF hcc hl hr=>exact tree _ _ _ _ _ (.slC _ _ b oo _ c hn hcap hF hcc hl hr) hs h
  ·exact h.elim
 ·rename_i s xs
  split at h
  ·rename_i hs
   cases hv with
   |fit _ _ p ht=>exact tree _ _ _ _ _ ht hs h
  ·exact h.elim
 ·rename_i id lim
  rw [Aaj] at h
  split at h
  ·rename_i s xs sp ro hob
   split at h
   ·rename_i hs
    have hs:=Nat.eq_of_beq_eq_true hs
    subst hs
    obtain ⟨kd,n,rfl,h0,hlt,h⟩:=Afj h hiv
    cases hv with
    |all _ _ _ ho=>
    unfold OwnSl at ho
    rw [hob] at ho
    obtain ⟨p,cap,rfl,hcap,hoff,hcase⟩:=ho
    simp only [Option.getD_none] at*
    obtain ⟨h00,hblk⟩:=hg.obj id _ hob
    rcases hblk with ⟨hi,rfl,_⟩|⟨b,cs,ee,hi,_⟩
    ·simp at hlt
    ·rw [hi] at hcase
     have hp:p=some ⟨b,0*sizeOf cx el,none⟩:=hcase.1.resolve_left (by omega)
     subst hp
     refine ⟨_,_,h,.ptr _ _ _ _ ?_,fun _=>AbU hc he h0 hlt⟩
     unfold OwnPtr
     rw [hob,AaD]
     exact ⟨hlt,b,hi,by simp⟩
   ·exact h.elim
  ·rename_i vs hob
   split at h
   ·rename_i hs
    have hs:=Nat.eq_of_beq_eq_true hs
    obtain ⟨kd,n,rfl,h0,hlt,h⟩:=Afj h hiv
    cases hv with
    |all _ _ _ ho=>
    unfold OwnSl at ho
    rw [hob] at ho
    obtain ⟨p,cap,b,rfl,hcap,hoff,hb,hp⟩:=ho
    simp only [Option.getD_none] at*
    have hp:p=some ⟨b,0,none⟩:=hp.resolve_left (by omega)
    subst hp
    refine ⟨_,_,h,.ptr _ _ _ _ ?_,fun _=>AbU hc he h0 hlt⟩
    unfold OwnPtr
    rw [hob,AaD,←hs]
    exact ⟨hlt,rfl,b,hb,by simp⟩
   ·exact h.elim
  ·exact h.elim
 ·rename_i id off len lim
  rw [Aaj] at h
  split at h
  ·rename_i s xs sp ro hob
   split at h
   ·rename_i hs
    have hs:=Nat.eq_of_beq_eq_true hs
    subst hs
    obtain ⟨kd,n,rfl,h0,hlt,h⟩:=Afj h hiv
    cases hv with
    |sl _ _ _ _ _ ho=>
    unfold OwnSl at ho
    rw [hob] at ho
    obtain ⟨p,cap,rfl,hcap,hoff,hcase⟩:=ho
    simp only [Option.getD_some] at*
    obtain ⟨h00,hblk⟩:=hg.obj id _ hob
    rcases hblk with ⟨hi,rfl,_⟩|⟨b,cs,ee,hi,_⟩
    ·simp at hoff;omega
    ·rw [hi] at hcase
     have hp:p=some ⟨b,off*sizeOf cx el,none⟩:=hcase.1.resolve_left (by omega)
     subst hp
     refine ⟨_,_,h,.ptr _ _ _ _ ?_,fun _=>AbU hc he h0 hlt⟩
     unfold OwnPtr
     rw [hob,AaD]
     exact ⟨by omega,b,hi,by simp [Nat.add_mul]⟩
   ·exact h.elim
  ·exact h.elim
 ·exact h.elim
theorem Aen (hc:CxTy P cx) (hg:Good ι F w H) (hs:Sim ι F w H e a) (t:Nat) (x i:Operand) (ho:o.op= .indexAddr t x i) (h:wpQ S (opQ cx o e H) R):
  Still (Any) P R o ι F H w a:=by
 unfold opQ at h
 rw [ho] at h
 simp only at h
 split at h
 ·rename_i el he
  obtain ⟨v,h1,h2⟩:=AbM (Aaa _ _ _ h) (Aal hs x)
  obtain ⟨r,val,k1,k2,k3⟩:=AjK (P:=P) hc hg he (Aaa _ _ _ h1) h2 (Aal hs i)
  refine Aak hg k1 k2 fun w=> ?_
  simp [execOp,ho,k3]
 ·exact h.elim
theorem AkL {v:V} {u:Value} {n:Nat} (h:lenV v H=some n) (hv:VR ι F w H v u):(∃p c,u= .slice p n c)∨ ∃s,v= .t (.str s)∧u= .string s∧s.size=n:=by
 unfold lenV at h
 split at h
 ·simp at h;subst h
  have ht:=hv.t_inv
  cases ht with
  |slN=>exact .inl ⟨_,_,rfl⟩
  |slC=>exact .inl ⟨_,_,rfl⟩
 ·simp at h;subst h
  cases hv with
  |fit _ _ p ht=>exact .inl ⟨_,_,rfl⟩
 ·rw [Aaj] at h
  split at h
  ·rename_i hob
   simp at h;subst h
   cases hv with
   |all _ _ _ ho=>
   unfold OwnSl at ho
   rw [hob] at ho
   obtain ⟨p,cap,rfl,_⟩:=ho
   exact .inl ⟨_,_,rfl⟩
  ·rename_i hob
   simp at h;subst h
   cases hv with
   |all _ _ _ ho=>
   unfold OwnSl at ho
   rw [hob] at ho
   obtain ⟨p,cap,b,rfl,_⟩:=ho
   exact .inl ⟨_,_,rfl⟩
  ·contradiction
 ·rw [Aaj] at h
  split at h
  ·rename_i hob
   simp at h;subst h
   cases hv with
   |sl _ _ _ _ _ ho=>
   unfold OwnSl at ho
   rw [hob] at ho
   obtain ⟨p,cap,rfl,_⟩:=ho
   exact .inl ⟨_,_,rfl⟩
  ·contradiction
 ·simp at h;subst h
  exact .inr ⟨_,rfl,hv.t_inv.str_inv,rfl⟩
 ·contradiction
end
end Go.Eva
namespace Go.Eva
open Go.RowKit
section
variable {P:Program} {cx:Cx} {S:Task→(Res→Prop)→Prop} {w:World} {ι:Io} {F:Nat→Prop} {H:Heap}
variable {o:Oper} {e:Env} {a:Act} {R:V×Heap→Prop} {Q:Exit→Act→World→Prop}
theorem Ah9 (hc:CxTy P cx) {ft off:Nat} {i:TI} (hi:cx.ti.get ft=some i) {vs:List V} {cs:Array Value} {R:V→Prop} (h:wpQ S (partV cx ft vs off) R) (hl:vs.length=cs.size) (h1: ∀(i:Nat) c,cs[i]?=some c→c.oneCell'=true)
  (hcc: ∀(i:Nat) y c,vs[i]?=some y→cs[i]?=some c→VR ι F w H y c): ∃r val,R r∧VR ι F w H r val∧ ∀w,(part ft cs off).run P w= .ok val w:=by
 unfold partV at h
 split at h
 ·rename_i hst
  have fin: ∀l,l=(vs.drop off).take (sizeOf cx ft)→l.length=sizeOf cx ft→wpQ S (force (mkAgg l)) R→ ∃r val,R r∧VR ι F w H r val∧ ∀w,(part ft cs off).run P w= .ok val w:=by
   intro l he hll h
   refine ⟨_,_,Aat h,Ado (cs:=cs.extract off (off+sizeOf cx ft)) ?_ ?_ ?_,fun _=>Aek hc hi hst cs off⟩
   ·subst he;simp at hll⊢;omega
   ·intro k c hk
    rw [Array.getElem?_extract] at hk
    split at hk
    ·exact h1 _ c hk
    ·contradiction
   ·intro k x c hx hk
    rw [Array.getElem?_extract] at hk
    split at hk
    ·subst he
     rw [List.getElem?_take] at hx
     split at hx
     ·rw [List.getElem?_drop] at hx
      exact hcc _ x c hx hk
     ·contradiction
    ·contradiction
  rcases AcU (Aaa _ _ _ h) with ⟨k1,k2⟩|⟨k1,k2⟩
  ·exact fin _ rfl (by simp;omega) k1
  ·exact fin [] (by simp [k1]) (by simp [k1]) k2
 ·rename_i hst
  rcases AcU (Aaa _ _ _ h) with ⟨k1,k2⟩|⟨k1,_⟩
  ·have hj:off<vs.length:=by omega
   have ee:(vs.drop off).take 1= [vs[off]]:=by rw [List.drop_eq_getElem_cons hj];rfl
   rw [ee] at k1
   have hj':off<cs.size:=by omega
   have hcv:cs[off]?=some cs[off]:=by simp
   exact ⟨_,_,k1,hcc off _ _ (List.getElem?_eq_getElem hj) hcv,fun _=>Acm hc hi hst cs off hcv⟩
  ·omega
theorem AhI (hc:CxTy P cx) (hg:Good ι F w H) (hs:Sim ι F w H e a) (t:Nat) (x:Operand) (f:Nat) (ho:o.op= .field t x f) (h:wpQ S (opQ cx o e H) R):
  Still (Any) P R o ι F H w a:=by
 unfold opQ at h
 rw [ho] at h
 simp only at h
 have hx:=Aal hs x
 split at h
 ·rename_i off ft hf
  obtain ⟨fields,fd,h1,h2,h3,h4,i,h5⟩:=AhF hc hf
  have hrun: ∀cs val,a.eval x= .agg cs→(∀w,(part ft cs off).run P w= .ok val w)→ ∀w,(execOp a.eval o).run P w= .ok (.value val) w:=by
   intro cs val hq hp w
   simp [execOp,ho,hq,Instr.field,run_underlying h1,h2,asAgg,h4,h3,hp]
  split at h
  ·rename_i vs hv
   rw [hv] at hx
   have hx:=hx.t_inv
   generalize hq:a.eval x=u at hx
   cases hx with
   |agg _ cs hl ho1 hcc=>
    obtain ⟨r,val,k1,k2,k3⟩:=Ah9 (P:=P) (ι:=ι) (F:=F) (w:=w) (H:=H) hc h5 (Aaa _ _ _ h) (by simpa using hl) ho1 (by
     intro i y c hy hc
     simp at hy
     obtain ⟨z,hz,rfl⟩:=hy
     exact .t _ _ (hcc i z c hz hc))
    exact Aak hg k1 k2 (hrun cs val hq k3)
  ·rename_i vs hv
   rw [hv] at hx
   generalize hq:a.eval x=u at hx
   cases hx with
   |agg _ cs hl ho1 hcc=>
    obtain ⟨r,val,k1,k2,k3⟩:=Ah9 (P:=P) (ι:=ι) (F:=F) (w:=w) (H:=H) hc h5 (Aaa _ _ _ h) hl ho1 hcc
    exact Aak hg k1 k2 (hrun cs val hq k3)
  ·exact h.elim
 ·exact h.elim
theorem AdL: ∀(l:List Value) (j:Nat) (off:Nat) (cs:Array Value),off+j+l.length≤cs.size→
  ((l.zipIdx j).foldl (fun cs (c,j)=>cs.setIfInBounds (off+j) c) cs).size=cs.size∧
  ∀i:Nat,((l.zipIdx j).foldl (fun cs (c,j)=>cs.setIfInBounds (off+j) c) cs)[i]?=if off+j≤i∧i<off+j+l.length then l[i-(off+j)]? else cs[i]?
 | [],j,off,cs,_=>by
  refine ⟨rfl,fun i=> ?_⟩
  simp only [List.zipIdx_nil,List.foldl_nil,List.length_nil,Nat.add_zero]
  rw [if_neg (by omega)]
 |x::l,j,off,cs,h=>by
  simp only [List.length_cons] at h
  obtain ⟨h1,h2⟩:=AdL l (j+1) off (cs.setIfInBounds (off+j) x) (by simp;omega)
  simp only [List.zipIdx_cons,List.foldl_cons]
  refine ⟨by rw [h1];simp,fun i=> ?_⟩
  rw [h2]
  by_cases hi:i=off+j
  ·subst hi
   rw [if_neg (by omega),if_pos (by simp),Array.getElem?_setIfInBounds_self_of_lt (by omega)]
   simp
  ·by_cases hin:off+(j+1)≤i∧i<off+(j+1)+l.length
   ·rw [if_pos hin,if_pos (by simp;omega)]
    have:i-(off+j)=(i-(off+(j+1)))+1:=by omega
    rw [this];simp
   ·rw [if_neg hin,if_neg (by simp;omega),Array.getElem?_setIfInBounds_ne (by omega)]
theorem AiF (hc:CxTy P cx) (hs:Sim ι F w H e a) {fs:List (Nat×Nat)} {place:Nat→Option (Nat×Nat)} (hpl: ∀i off t,nth fs i=some (off,t)→place i=some (off,sizeOf cx t)):
  ∀ {parts:List (Nat×Operand)} {cs:List V} {vc:Array Value} {R:List V→Prop},wpQ S (fill cx e H fs parts cs) R→cs.length=vc.size→(∀(i:Nat) c,vc[i]?=some c→c.oneCell'=true)→
   (∀(i:Nat) y c,cs[i]?=some y→vc[i]?=some c→VR ι F w H y c)→
   ∃cs' vc',R cs'∧Instr.fill place vc (parts.map fun p=>(p.1,a.eval p.2))=some vc'∧cs'.length=vc'.size∧vc'.size=vc.size∧(∀(i:Nat) c,vc'[i]?=some c→c.oneCell'=true)∧
    (∀(i:Nat) y c,cs'[i]?=some y→vc'[i]?=some c→VR ι F w H y c)
 | [],cs,vc,R,h,hl,h1,hcc=>⟨cs,vc,h,rfl,hl,rfl,h1,hcc⟩
 |(i,x)::r,cs,vc,R,h,hl,h1,hcc=>by
  unfold fill at h
  split at h
  ·rename_i off t hn
   obtain ⟨v,k1,k2⟩:=AbM (Aaa _ _ _ h) (Aal hs x)
   split at k1
   ·rename_i hb
    simp only [Bool.and_eq_true] at hb
    have hsz:=Nat.eq_of_beq_eq_true hb.1.1
    have hfit:off+v.size≤cs.length:=Nat.le_of_ble_eq_true hb.1.2
    split at k1
    ·exact k1.elim
    ·rename_i hna
     have hne:v≠ .t .any:=fun e=>hna e
     obtain ⟨g1,g2⟩:=k2.shape hne hb.2
     have hgc:=k2.cells hne
     have hsz':(a.eval x).cells.size=v.size:=g1.symm
     obtain ⟨f1,f2⟩:=AdL (a.eval x).cells.toList 0 off vc (by simp;omega)
     simp only [Nat.add_zero,Array.length_toList] at f2
     have hov:=Ads cs off v.cells (by have:v.cells.length=v.size:=rfl;omega)
     have hol:=Adz cs off v.cells (by have:v.cells.length=v.size:=rfl;omega)
     obtain ⟨cs',vc',q1,q2,q3,q4,q5,q6⟩:=AiF hc hs hpl (vc:=((a.eval x).cells.zipIdx.toList).foldl (fun cs (c,j)=>cs.setIfInBounds (off+j) c) vc) k1 (by rw [hol,hl];rw [Array.toList_zipIdx];exact f1.symm) (by
      intro i c hci
      rw [Array.toList_zipIdx,f2] at hci
      split at hci
      ·exact g2 _ c (by simpa using hci)
      ·exact h1 i c hci) (by
      intro i y c hy hci
      rw [hov] at hy
      rw [Array.toList_zipIdx,f2] at hci
      have hvl:v.cells.length=v.size:=rfl
      by_cases hin:off≤i∧i<off+v.cells.length
      ·rw [if_pos hin] at hy
       rw [if_pos (by omega)] at hci
       exact hgc (i-off) y c hy (by simpa using hci)
      ·rw [if_neg hin] at hy
       rw [if_neg (by omega)] at hci
       exact hcc i y c hy hci)
     refine ⟨cs',vc',q1,?_,q3,by rw [q4];rw [Array.toList_zipIdx];exact f1,q5,q6⟩
     simp only [List.map_cons,Instr.fill,hpl i off t hn]
     rw [if_neg (by simp;omega)]
     rw [←q2,Array.foldl_toList]
   ·exact k1.elim
  ·exact h.elim
theorem AgA {α β:Type} (f:α→Option β) (g:α→β): ∀(l:List α),(∀x∈l,f x=some (g x))→l.mapM f=some (l.map g)
 | [],_=>by simp
 |x::r,h=>by
  rw [List.mapM_cons,h x (by simp),AgA f g r (fun y hy=>h y (by simp [hy]))]
  rfl
theorem Aie (hc:CxTy P cx) (hg:Good ι F w H) (hs:Sim ι F w H e a) (t:Nat) (parts:Array (Nat×Operand)) (ho:o.op= .build t parts) (h:wpQ S (opQ cx o e H) R):
  Still (Any) P R o ι F H w a:=by
 unfold opQ at h
 rw [ho] at h
 simp only at h
 split at h
 ·rename_i z fs sz by_ eq hz hget
  obtain ⟨inf,d,c1,c2,c3,c4,c5,c6,c7⟩:=hc.ty t _ hget
  obtain ⟨zv,d1,d2⟩:=c7
  obtain ⟨d2,d3,d4,d5,d6⟩:=d2 z hz
  simp only [TyR] at c5
  obtain ⟨fields,rfl,hm,hall⟩:=c5
  have hpl: ∀i off t',nth fs i=some (off,t')→((fields.map fun f=>(f.offset,sizeOf cx f.type))[i]?)=some (off,sizeOf cx t'):=by
   intro i off t' hn
   rw [Aaj,←hm] at hn
   simp at hn⊢
   obtain ⟨fd,h1,h2,h3⟩:=hn
   exact ⟨fd,h1,h2,by rw [h3]⟩
  have hzr:=d2 ι F w H
  have hzc:=hzr.cells d4
  obtain ⟨cs',vc',q1,q2,q3,q4,q5,q6⟩:=AiF (P:=P) hc hs hpl (vc:=zv.cells) (Aaa _ _ _ h) (by rw [d6];exact d5) d3 hzc
  have hplaces:fields.toList.mapM (fun f=>(P.info? f.type).map fun i=>(f.offset,i.size))=some (fields.toList.map fun f=>(f.offset,sizeOf cx f.type)):=by
   refine AgA _ _ _ (fun f hf=> ?_)
   obtain ⟨_,i,hi⟩:=hall f hf
   obtain ⟨inf',d',k1,k2,k3,_⟩:=hc.ty _ _ hi
   simp [k1,k3,sizeOf,hi]
  have hbuilt:P.built t (parts.map fun (i,x)=>(i,a.eval x)).toList=some vc':=by
   unfold Program.built
   simp only [c1,c2,d1,hplaces]
   rw [←q2]
   congr 1
   ·funext i;simp
   ·simp
  have hrun:=fun w=>run_build (P:=P) w t (parts.map fun (i,x)=>(i,a.eval x)) vc' hbuilt
  rcases AcU (Aaa _ _ _ q1) with ⟨k1,k2⟩|⟨k1,k2⟩
  ·have hlen:cs'.length=sizeOf cx t:=by
    have:sizeOf cx t=sz:=by simp [sizeOf,hget]
    rw [q3,q4,d6,this]
   rw [List.drop_zero,List.take_of_length_le (by omega)] at k1
   exact Aak hg (Aat (Aaa _ _ _ k1)) (Ado q3 q5 q6) (fun w=>by simp [execOp,ho,hrun w])
  ·have hlen:cs'.length=0:=by
    have:sizeOf cx t=sz:=by simp [sizeOf,hget]
    rw [q3,q4,d6,←this,k1]
   have hnil:cs'= []:=List.eq_nil_of_length_eq_zero hlen
   subst hnil
   exact Aak hg (Aat (Aaa _ _ _ k2)) (Ado q3 q5 q6) (fun w=>by simp [execOp,ho,hrun w])
 ·exact h.elim
end
end Go.Eva
namespace Go.Eva
open Go.RowKit
section
variable {P:Program} {cx:Cx} {S:Task→(Res→Prop)→Prop} {w:World} {ι:Io} {F:Nat→Prop} {H:Heap}
variable {o:Oper} {e:Env} {a:Act} {R:V×Heap→Prop} {Q:Exit→Act→World→Prop}
theorem AiG: ∀ {vs:List V} {us:List Value} {F:Nat→Prop} {H:Heap} {R:List T×Heap→Prop},Good ι F w H→wpQ S (toTs vs H) R→vs.length=us.length→(∀(i:Nat) v u,vs[i]?=some v→us[i]?=some u→VR ι F w H v u)→
  ∃xs H' F',R (xs,H')∧Good ι F' w H'∧Step ι F H w ι F' H' w∧xs.length=vs.length∧ ∀(i:Nat) x u,xs[i]?=some x→us[i]?=some u→TR F' w x u∧(∀v,vs[i]?=some v→v≠ .t .any→x≠ .any)
 | [],us,F,H,R,hg,h,hl,hv=>⟨[],H,F,h,hg,.refl ι F H w,rfl,by simp⟩
 |v::r,[],F,H,R,hg,h,hl,hv=>by simp at hl
 |v::r,u::us,F,H,R,hg,h,hl,hv=>by
  obtain ⟨x,H1,F1,k1,k2,k3,k4,k5⟩:=Ah8 hg (Aaa _ _ _ h) (hv 0 v u rfl rfl)
  obtain ⟨xs,H2,F2,q1,q2,q3,q4,q5⟩:=AiG (us:=us) k2 (Aaa _ _ _ k1) (by simpa using hl) (fun i v' u' h1 h2=>k3.vr hg (hv (i+1) v' u' (by simpa using h1) (by simpa using h2)))
  refine ⟨x::xs,H2,F2,q1,q2,k3.trans q3,by simp [q4],?_⟩
  intro i y z hy hz
  cases i with
  |zero=>simp at hy hz;subst hy;subst hz;exact ⟨k4.mono q3.fsub (fun _ _=>rfl),fun v' hv'=>by simp at hv';subst hv';exact k5⟩
  |succ i=>
   simp at hy hz
   obtain ⟨p1,p2⟩:=q5 i y z hy hz
   exact ⟨p1,fun v' hv'=>p2 v' (by simpa using hv')⟩
theorem Ah3 {s:Nat}: ∀ {us:List Value} {k:Nat} {cs:Array Value},(k+us.length)*s≤cs.size→(∀u∈us,u.cells.size=s)→
  ∃cs',Instr.fill (fun i=>some (i*s,s)) cs ((us.zipIdx k).map fun p=>(p.2,p.1))=some cs'∧cs'.size=cs.size∧
   ∀i:Nat,cs'[i]?=if k*s≤i∧i<(k+us.length)*s then (us[i/s-k]?).bind fun u=>u.cells[i%s]? else cs[i]?
 | [],k,cs,h,hu=>⟨cs,rfl,rfl,fun i=>by rw [if_neg (by simp)]⟩
 |u::us,k,cs,h,hu=>by
  have hus:=hu u (by simp)
  have hks:(k+1)*s≤(k+(u::us).length)*s:=Nat.mul_le_mul_right _ (by simp)
  rw [Nat.add_mul,Nat.one_mul] at hks
  obtain ⟨f1,f2⟩:=AdL u.cells.toList 0 (k*s) cs (by simp;omega)
  simp only [Nat.add_zero,Array.length_toList] at f2
  obtain ⟨cs',q1,q2,q3⟩:=Ah3 (us:=us) (k:=k+1) (cs:=(u.cells.zipIdx.toList).foldl (fun cs (c,j)=>cs.setIfInBounds (k*s+j) c) cs) (by rw [Array.toList_zipIdx,f1];simp at h;rw [show k+1+us.length=k+(us.length+1) by omega];exact h) (fun v hv=>hu v (by simp [hv]))
  refine ⟨cs',?_,by rw [q2,Array.toList_zipIdx,f1],?_⟩
  ·simp only [List.zipIdx_cons,List.map_cons,Instr.fill]
   rw [if_neg (by simp [hus];omega),←q1,Array.foldl_toList]
  ·intro i
   rw [q3,Array.toList_zipIdx,f2,hus]
   have hk1:(k+1)*s=k*s+s:=by rw [Nat.add_mul,Nat.one_mul]
   have hlen:(k+(u::us).length)*s=(k+1+us.length)*s:=by congr 1;simp;omega
   by_cases h1:(k+1)*s≤i∧i<(k+1+us.length)*s
   ·rw [if_pos h1,if_pos (by rw [hlen];omega)]
    have hs0:0<s:=by
     rcases Nat.eq_zero_or_pos s with h0|h0
     ·subst h0;simp at h1
     ·exact h0
    have:k+1≤i/s:=by rw [Nat.le_div_iff_mul_le hs0];exact h1.1
    have e:i/s-k=(i/s-(k+1))+1:=by omega
    rw [e];simp
   ·rw [if_neg h1]
    by_cases h2:k*s≤i∧i<k*s+s
    ·rw [if_pos h2,if_pos (by rw [hlen];constructor;exact h2.1;have:(k+1)*s≤(k+1+us.length)*s:=Nat.mul_le_mul_right _ (by omega);omega)]
     have hs0:0<s:=by omega
     have e:i/s=k:=by
      rw [Nat.div_eq_iff hs0]
      constructor<;>omega
     have e2:i%s=i-k*s:=by
      have:=Nat.div_add_mod i s
      rw [e,Nat.mul_comm] at this
      omega
     rw [e,e2]
     simp
    ·rw [if_neg h2,if_neg (by rw [hlen];omega)]
theorem Af6: ∀ {vs:List V} {s:Nat},sizesOk H s vs=true→ ∀v∈vs,v.size=s∧alive H v=true∧v≠ .t .any
 | [],s,h,v,hv=>by simp at hv
 |x::r,s,h,v,hv=>by
  simp only [sizesOk,Bool.and_eq_true] at h
  obtain ⟨⟨⟨h1,h2⟩,h3⟩,h4⟩:=h
  simp at hv
  rcases hv with rfl|hv
  ·exact ⟨Nat.eq_of_beq_eq_true h1,h2,fun e=>by rw [e] at h3;simp [notAny] at h3⟩
  ·exact Af6 h4 v hv
theorem AfG: ∀ {ps:List (Nat×Operand)} {k:Nat} {xs:List Operand},partsAt k ps=some xs→ps=(xs.zipIdx k).map fun p=>(p.2,p.1)
 | [],k,xs,h=>by simp [partsAt] at h;subst h;rfl
 |(i,x)::r,k,xs,h=>by
  simp only [partsAt] at h
  split at h
  ·rename_i l hb hl
   simp at h;subst h
   rw [AfG hl,Nat.eq_of_beq_eq_true hb]
   rfl
  ·contradiction
theorem AjZ {cs:Array Value} {el:Nat} {s:Nat} {xs:List T} {us:List Value} (hg:Good ι F w H) (hl:xs.length=us.length) (hsz: ∀u∈us,u.cells.size=s) (h1: ∀u∈us,∀(i:Nat) c,u.cells[i]?=some c→c.oneCell'=true)
  (hx: ∀(i:Nat) x u,xs[i]?=some x→us[i]?=some u→TR F w x u∧x≠ .any) (hcs: ∀i:Nat,i<us.length*s→cs[i]?=(us[i/s]?).bind fun u=>u.cells[i%s]?) (cap:Nat) (hcap:xs.length≤cap):
  TR (fun b=>F b∨b=w.heap.size) (w.alloc (.cells cs el)) (.sl s xs) (.slice (some ⟨w.heap.size,0,none⟩) xs.length cap):=by
 by_cases hn:xs= []
 ·subst hn;exact .slN _ _ _
 ·have get: ∀i j,i<us.length→j<s→ ∃u,us[i]?=some u∧cs[i*s+j]?=u.cells[j]?∧j<u.cells.size:=by
   intro i j hi hj
   have hu:us[i]?=some us[i]:=List.getElem?_eq_getElem hi
   have hlt:i*s+j<us.length*s:=by
    have:=Nat.mul_le_mul_right s (show i+1≤us.length from hi)
    rw [Nat.add_mul,Nat.one_mul] at this
    omega
   have e1:(i*s+j)/s=i:=by rw [Nat.mul_comm,Nat.mul_add_div (by omega),Nat.div_eq_of_lt hj];simp
   have e2:(i*s+j)%s=j:=by rw [Nat.mul_comm,Nat.mul_add_mod,Nat.mod_eq_of_lt hj]
   have:=hcs (i*s+j) hlt
   rw [e1,e2,hu] at this
   exact ⟨us[i],hu,this,by rw [hsz us[i] (List.getElem_mem hi)];exact hj⟩
  refine .slC s xs w.heap.size 0 cap (fun i j=>(us.getD i undef).cells.getD j undef) hn hcap (.inr rfl) ?_ ?_ ?_
  ·intro i j hi hj
   obtain ⟨u,hu,hc,hlt⟩:=get i j (by omega) hj
   have hud:us.getD i undef=u:=by simp [hu]
   have hgg:u.cells[j]?=some u.cells[j]:=by simp
   rw [hud]
   have ed:u.cells.getD j undef=u.cells[j]:=by unfold Array.getD;rw [dif_pos hlt];rfl
   rw [ed]
   refine ⟨?_,h1 u (List.mem_of_getElem? hu) j _ hgg⟩
   rw [cell_of_row _ w.heap.size _ cs el _ AaL]
   simp only [Nat.zero_add]
   rw [hc,hgg]
  ·intro i x hxi hne
   have hi:i<us.length:=by rw [←hl];exact (List.getElem?_eq_some_iff.1 hxi).1
   obtain ⟨ht,_⟩:=hx i x _ hxi (List.getElem?_eq_getElem hi)
   rw [(ht.cells hne).1,hsz _ (List.getElem_mem hi)]
  ·intro i j x t hxi hne ht
   have hi:i<us.length:=by rw [←hl];exact (List.getElem?_eq_some_iff.1 hxi).1
   obtain ⟨hxu,_⟩:=hx i x _ hxi (List.getElem?_eq_getElem hi)
   obtain ⟨c1,c2⟩:=hxu.cells hne
   have hj:j<us[i].cells.size:=by rw [←c1];exact (List.getElem?_eq_some_iff.1 ht).1
   have hgg:us[i].cells[j]?=some us[i].cells[j]:=by simp
   have:=c2 j t _ ht hgg
   have hud:us.getD i undef=us[i]:=by simp [hi]
   rw [hud]
   have ed:us[i].cells.getD j undef=us[i].cells[j]:=by unfold Array.getD;rw [dif_pos hj];rfl
   rw [ed]
   exact this.mono (fun _ h=> .inl h) (fun b hb=>Aay (hg.fin b hb))
theorem AjI {cs:Array Value} {el:Nat} {s:Nat} {xs:List T} {us:List Value} (hg:Good ι F w H) (hl:xs.length=us.length) (hsz: ∀u∈us,u.cells.size=s) (h1: ∀u∈us,∀(i:Nat) c,u.cells[i]?=some c→c.oneCell'=true)
  (hx: ∀(i:Nat) x u,xs[i]?=some x→us[i]?=some u→TR F w x u∧x≠ .any) (hcs: ∀i:Nat,i<us.length*s→cs[i]?=(us[i/s]?).bind fun u=>u.cells[i%s]?):
  CellsR F (w.alloc (.cells cs el)) w.heap.size s xs:=by
 have get: ∀i j,i<us.length→j<s→ ∃u,us[i]?=some u∧cs[i*s+j]?=u.cells[j]?∧j<u.cells.size:=by
  intro i j hi hj
  have hu:us[i]?=some us[i]:=List.getElem?_eq_getElem hi
  have hlt:i*s+j<us.length*s:=by
   have:=Nat.mul_le_mul_right s (show i+1≤us.length from hi)
   rw [Nat.add_mul,Nat.one_mul] at this
   omega
  have e1:(i*s+j)/s=i:=by rw [Nat.mul_comm,Nat.mul_add_div (by omega),Nat.div_eq_of_lt hj];simp
  have e2:(i*s+j)%s=j:=by rw [Nat.mul_comm,Nat.mul_add_mod,Nat.mod_eq_of_lt hj]
  have:=hcs (i*s+j) hlt
  rw [e1,e2,hu] at this
  exact ⟨us[i],hu,this,by rw [hsz us[i] (List.getElem_mem hi)];exact hj⟩
 refine ⟨fun i j=>(us.getD i undef).cells.getD j undef,?_,?_,?_⟩
 ·intro i j hi hj
  obtain ⟨u,hu,hc,hlt⟩:=get i j (by omega) hj
  have hud:us.getD i undef=u:=by simp [hu]
  have hgg:u.cells[j]?=some u.cells[j]:=by simp
  simp only []
  rw [hud]
  have ed:u.cells.getD j undef=u.cells[j]:=by unfold Array.getD;rw [dif_pos hlt];rfl
  rw [ed]
  refine ⟨?_,h1 u (List.mem_of_getElem? hu) j _ hgg⟩
  rw [cell_of_row _ w.heap.size _ cs el _ AaL,hc,hgg]
 ·intro i x hxi hne
  have hi:i<us.length:=by rw [←hl];exact (List.getElem?_eq_some_iff.1 hxi).1
  obtain ⟨ht,_⟩:=hx i x _ hxi (List.getElem?_eq_getElem hi)
  rw [(ht.cells hne).1,hsz _ (List.getElem_mem hi)]
 ·intro i j x t hxi hne ht
  have hi:i<us.length:=by rw [←hl];exact (List.getElem?_eq_some_iff.1 hxi).1
  obtain ⟨hxu,_⟩:=hx i x _ hxi (List.getElem?_eq_getElem hi)
  obtain ⟨c1,c2⟩:=hxu.cells hne
  have hj:j<us[i].cells.size:=by rw [←c1];exact (List.getElem?_eq_some_iff.1 ht).1
  have hgg:us[i].cells[j]?=some us[i].cells[j]:=by simp
  have:=c2 j t _ ht hgg
  have hud:us.getD i undef=us[i]:=by simp [hi]
  simp only []
  rw [hud]
  have ed:us[i].cells.getD j undef=us[i].cells[j]:=by unfold Array.getD;rw [dif_pos hj];rfl
  rw [ed]
  exact this.mono (fun _ h=>h) (fun b hb=>Aay (hg.fin b hb))
theorem AfJ: ∀ {vs:List V},plainVs vs=true→ ∀v∈vs,plainV v=true
 | [],_,v,hv=>by simp at hv
 |x::r,h,v,hv=>by
  simp only [plainVs,Bool.and_eq_true] at h
  rcases List.mem_cons.1 hv with rfl|hv
  ·exact h.1
  ·exact AfJ h.2 v hv
theorem Ad6 (hc:CxTy P cx) (hg:Good ι F w H) (hs:Sim ι F w H e a) (t len:Nat) (parts:Array (Nat×Operand)) (ho:o.op= .buildSlice t len parts) (h:wpQ S (opQ cx o e H) R):
  o.wp P a w (fun a' w'=>OpPost R o ι F H w a a' w'∧OldSame w w') Q:=by
 unfold opQ at h
 rw [ho] at h
 simp only at h
 split at h
 ·rename_i el xs hel hps
  split at h
  ·rename_i hb
   simp only [Bool.and_eq_true] at hb
   have hlen:=Nat.eq_of_beq_eq_true hb.1
   have hmax:len*sizeOf cx el≤16777216:=Nat.le_of_ble_eq_true hb.2
   have h:=Abz (Aaa _ _ _ h)
   obtain ⟨vs,k1,k2,k3⟩:=Ae9 hs (Aaa _ _ _ h)
   obtain ⟨e1,i,inf,e2,e3,e4,e5,e6,e7,e8⟩:=Abo hc hel
   obtain ⟨inf',d',c1,c2,c3,c4,c5,c6,c7⟩:=hc.ty el i e2
   rw [e4] at c1
   obtain rfl:=Option.some.inj c1
   split at k1
   ·rename_i hok
    have hok:=Af6 hok
    have hul:vs.length=(xs.map a.eval).length:=by simp [k2]
    have hvu: ∀(i:Nat) v u,vs[i]?=some v→(xs.map a.eval)[i]?=some u→VR ι F w H v u:=by
     intro i v u hv hu
     simp at hu
     obtain ⟨x,hx,rfl⟩:=hu
     exact k3 i v x hv hx
    have hu1: ∀u∈xs.map a.eval,u.cells.size=sizeOf cx el∧ ∀(i:Nat) c,u.cells[i]?=some c→c.oneCell'=true:=by
     intro u hu
     obtain ⟨i,hi,rfl⟩:=List.getElem_of_mem hu
     have hi':i<vs.length:=by omega
     have hv:=hvu i _ _ (List.getElem?_eq_getElem hi') (List.getElem?_eq_getElem hi)
     obtain ⟨g0,g1,g2⟩:=hok _ (List.getElem_mem hi')
     obtain ⟨p1,p2⟩:=hv.shape g2 g1
     exact ⟨by rw [←p1,←g0];rfl,p2⟩
    obtain ⟨zv,hz,_⟩:=c7
    generalize hcs0:(if len*sizeOf cx el=0 then #[] else (Array.range (len*sizeOf cx el)).map (zv.cells[· %zv.cells.size]!))=cs0
    have hcs0s:cs0.size=len*sizeOf cx el:=by rw [←hcs0];split<;>simp_all
    obtain ⟨cs,q1,q2,q3⟩:=Ah3 (s:=sizeOf cx el) (us:=xs.map a.eval) (k:=0) (cs:=cs0) (by rw [hcs0s];simp [hlen]) (fun u hu=>(hu1 u hu).1)
    have hparts:(parts.map fun (i,x)=>(i,a.eval x)).toList=(((xs.map a.eval).zipIdx 0).map fun p=>(p.2,p.1)):=by
     have:=AfG hps
     simp only [Array.toList_map,this,List.map_map,List.zipIdx_map]
     rfl
    have hrun:(execOp a.eval o).run P w= .ok (.value (.slice (some ⟨w.heap.size,0,none⟩) len len)) (w.alloc (.cells cs el)):=by
     have hns: ¬(16777216<len*sizeOf cx el):=by omega
     have hs1:=Aav hc e2 w
     by_cases h0:len*sizeOf cx el=0
     ·rw [if_pos h0] at hcs0
      subst hcs0
      simp [execOp,ho,Instr.buildSlice,run_underlying e1,hs1,h0,newRow,show Array.range 0= #[] from rfl]
      have hq:=q1
      rw [←hparts] at hq
      simp at hq
      rw [hq]
      simp
     ·rw [if_neg h0] at hcs0
      subst hcs0
      have hq:=q1
      rw [←hparts] at hq
      simp only [execOp,ho,Instr.buildSlice,Sem.run_bind,run_underlying e1,Result.andThen_ok,hs1,Sem.run_ite,h0,if_false,zeroValue,typeInfo,run_program,e4,Sem.run_pure,hz,newRow]
      rw [if_neg (by omega)]
      simp at hq
      simp [hq]
    have fin: ∀(ys:List T) (H':Heap) (F':Nat→Prop),wpQ S (litSl (made cx t o.dst) (sizeOf cx el) ys H') R→Good ι F' w H'→Step ι F H w ι F' H' w→ys.length=vs.length→(∀(i:Nat) y u,ys[i]?=some y→(xs.map a.eval)[i]?=some u→TR F' w y u∧y≠ .any)→
      o.wp P a w (fun a' w'=>OpPost R o ι F H w a a' w'∧OldSame w w') Q:=by
     intro ys H' F' hR hg' hst hyl hy
     have hyl':ys.length=len:=by rw [hyl,k2,hlen]
     have hcsx: ∀i:Nat,i<(xs.map a.eval).length*sizeOf cx el→cs[i]?=((xs.map a.eval)[i/sizeOf cx el]?).bind fun u=>u.cells[i%sizeOf cx el]?:=by
      intro i hi
      rw [q3,if_pos (by simpa using hi)]
      simp
     unfold litSl at hR
     split at hR
     ·replace hR:=Aa5 (Aaa _ _ _ hR)
      have hrc:=AjI (cs:=cs) (el:=el) (s:=sizeOf cx el) (xs:=ys) (us:=xs.map a.eval) hg' (by rw [hyl];exact hul) (fun u hu=>(hu1 u hu).1) (fun u hu=>(hu1 u hu).2) hy hcsx
      have hcss:cs.size=len*sizeOf cx el:=by rw [q2,hcs0s]
      have hcone: ∀(i:Nat) (c:Value),cs[i]?=some c→c.oneCell'=true:=by
       intro i c hc'
       have hi:i<(xs.map a.eval).length*sizeOf cx el:=by
        have:=(Array.getElem?_eq_some_iff.1 hc').1
        simp only [List.length_map];rw [←hlen];omega
       rw [hcsx i hi] at hc'
       obtain ⟨u,hu,huc⟩:=Option.bind_eq_some_iff.1 hc'
       exact (hu1 u (List.mem_of_getElem? hu)).2 _ c huc
      obtain ⟨g1,g2⟩:=Ac6 hg' (.arr (sizeOf cx el) ys (some 0) false) cs el rfl (by
       refine ⟨by rw [e7];exact e3,.inr ⟨w.heap.size,cs,el,by simp [upd],AaL,?_,fun k hk=> ?_,⟨len,hcss⟩,hcone,hrc⟩⟩
       ·rw [hyl',hcss];exact Nat.le_refl _
       ·cases hk;rw [hyl',hcss];rfl)
      refine AaB hrun ⟨⟨_,_,_,F',_,hR,rfl,g1,hst.trans g2,.all _ _ _ ?_⟩,.alloc w _⟩
      unfold OwnSl
      rw [show (H'++ [Ob.arr (sizeOf cx el) ys (some 0) false])[H'.length]?=some (.arr (sizeOf cx el) ys (some 0) false) by simp]
      refine ⟨some ⟨w.heap.size,0,none⟩,len,by simp [hyl'],by simp [hyl'],by simp,?_⟩
      rw [show upd ι H'.length (some w.heap.size) H'.length=some w.heap.size by simp [upd]]
      refine ⟨.inr (by simp),?_⟩
      simp only
      unfold blk
      rw [AaL]
      simp [hcss]
     obtain ⟨g1,g2⟩:=Aix hg' (.cells cs el)
     have ht:=AjZ (cs:=cs) (el:=el) (s:=sizeOf cx el) (xs:=ys) (us:=xs.map a.eval) hg' (by rw [hyl];exact hul) (fun u hu=>(hu1 u hu).1) (fun u hu=>(hu1 u hu).2) hy (by
      intro i hi
      rw [q3,if_pos (by simpa using hi)]
      simp) len (by omega)
     refine AaB hrun ⟨⟨_,H',ι,_,_,hR,rfl,g1,hst.trans g2,?_⟩,.alloc w _⟩
     rw [←hyl'] at ht⊢
     exact .fit _ _ _ ht
    split at k1
    ·split at k1
     ·rename_i ts hts
      have:=AbG hts
      subst this
      refine fin ts H F k1 hg (.refl ι F H w) (by simp) ?_
      intro i y u hy hu
      have hv:(ts.map V.t)[i]?=some (.t y):=by simp [hy]
      refine ⟨(hvu i _ u hv hu).t_inv,fun e=> ?_⟩
      subst e
      exact (hok _ (List.mem_of_getElem? hv)).2.2 rfl
     ·exact k1.elim
    ·split at k1
     ·rename_i hmv
      simp only [madeVec,Bool.and_eq_true] at hmv
      have hes:sizeOf cx el=1:=Nat.eq_of_beq_eq_true hmv.1.2
      have hcss:cs.size=len:=by rw [q2,hcs0s,hes,Nat.mul_one]
      have hvl:vs.length=len:=by rw [hul,List.length_map,hlen]
      have hcsx: ∀(i:Nat) (c:Value),cs[i]?=some c→ ∃u,(xs.map a.eval)[i]?=some u∧u.cells[0]?=some c:=by
       intro i c hc'
       have hi:i<(xs.map a.eval).length*sizeOf cx el:=by
        have:=(Array.getElem?_eq_some_iff.1 hc').1
        rw [hes,Nat.mul_one,←hul,hvl,←hcss];exact this
       rw [q3,if_pos (by simpa using hi)] at hc'
       simp only [hes,Nat.sub_zero,Nat.div_one,Nat.mod_one] at hc'
       obtain ⟨u,hu,huc⟩:=Option.bind_eq_some_iff.1 hc'
       exact ⟨u,hu,huc⟩
      replace k1:=Aa5 (Aaa _ _ _ k1)
      obtain ⟨g1,g2⟩:=Ac6 hg (.vec vs) cs el rfl (by
       refine ⟨w.heap.size,cs,el,by simp [upd],AaL,by omega,fun i c hc'=> ?_,fun i v c hv hc'=> ?_⟩
       ·obtain ⟨u,hu,huc⟩:=hcsx i c hc'
        exact (hu1 u (List.mem_of_getElem? hu)).2 0 c huc
       ·obtain ⟨u,hu,huc⟩:=hcsx i c hc'
        have hm:=List.mem_of_getElem? hv
        have hpl:=AfJ hmv.2 v hm
        refine ⟨((hvu i v u hv hu).cells (hok v hm).2.2 0 v c (by cases v<;>first|rfl|simp [plainV] at hpl) huc).mono (fun _ h=>h) (fun b hb=>Aay (hg.fin b hb)) (Adx hg.lt),(hok v hm).2.2⟩)
      refine AaB hrun ⟨⟨_,_,_,F,_,k1,rfl,g1,g2,.all _ _ _ ?_⟩,.alloc w _⟩
      unfold OwnSl
      rw [show (H++ [Ob.vec vs])[H.length]?=some (.vec vs) by simp]
      exact ⟨some ⟨w.heap.size,0,none⟩,len,w.heap.size,by simp [hvl],by simp [hvl],by simp,by simp [upd],.inr rfl⟩
     ·obtain ⟨ts,H',F',p1,p2,p3,p4,p5⟩:=AiG hg (Aaa _ _ _ k1) hul hvu
      refine fin ts H' F' p1 p2 p3 p4 ?_
      intro i y u hy hu
      have hi:i<vs.length:=by rw [←p4];exact (List.getElem?_eq_some_iff.1 hy).1
      obtain ⟨r1,r2⟩:=p5 i y u hy hu
      exact ⟨r1,r2 _ (List.getElem?_eq_getElem hi) (hok _ (List.getElem_mem hi)).2.2⟩
   ·exact k1.elim
  ·exact h.elim
 ·exact h.elim
end
end Go.Eva
namespace Go.Eva
open Go.RowKit
section
variable {P:Program} {cx:Cx} {S:Task→(Res→Prop)→Prop} {w:World} {ι:Io} {F:Nat→Prop} {H:Heap}
theorem Ae7 (hg:Good ι F w H) {id:Nat} {o:Ob} (ho:H[id]?=some o):Good ι F w (H.set id .dead)∧Step ι F H w ι F (H.set id .dead) w:=
 Ahh hg ho rfl rfl rfl rfl (fun _ _=>rfl) (.inl rfl) (fun h=>by simp [Ob.isDead] at h) (fun _=>trivial)
theorem AeM {w':World} (hg:Good ι F w H) {id:Nat} {o o':Ob} (ho:H[id]?=some o) (hd:o.isDead=false) (hr:o.ro=false) (hr':o'.ro=false)
  (hos:w'.os=w.os) (htape:w'.tape=w.tape) (hout:w'.output=w.output) (hsize:w'.heap.size=w.heap.size)
  (hother: ∀b,ι id≠some b→w'.heap[b]?=w.heap[b]?)
  (hob:(∀i oi,H[i]?=some oi→ ∃o'',(H.set id .dead++ [o'])[i]?=some o''∧Like ι (upd ι H.length (ι id)) w w' i oi o'')→(∀b,F b→w'.heap[b]?=w.heap[b]?)→ObR (upd ι H.length (ι id)) F w' (H.set id .dead++ [o']) H.length o'):
  Good (upd ι H.length (ι id)) F w' (H.set id .dead++ [o'])∧Step ι F H w (upd ι H.length (ι id)) F (H.set id .dead++ [o']) w':=by
 have hid:=(List.getElem?_eq_some_iff.1 ho).1
 have hlen:(H.set id .dead).length=H.length:=by simp
 have old: ∀i,i<H.length→upd ι H.length (ι id) i=ι i:=fun i h=>by unfold upd;rw [if_neg (by omega)]
 have new:upd ι H.length (ι id) H.length=ι id:=by unfold upd;rw [if_pos rfl]
 have get: ∀i oi,(H.set id .dead++ [o'])[i]?=some oi→(i≠id∧H[i]?=some oi)∨(i=id∧oi= .dead)∨(i=H.length∧oi=o'):=by
  intro i oi h
  rcases Aa2 h with h|⟨h1,h2⟩
  ·by_cases e:i=id
   ·subst e;simp [hid] at h;exact .inr (.inl ⟨rfl,h.symm⟩)
   ·rw [List.getElem?_set_ne (Ne.symm e)] at h;exact .inl ⟨e,h⟩
  ·exact .inr (.inr ⟨by rw [hlen] at h1;exact h1,h2⟩)
 have hblk: ∀i oi b,i≠id→H[i]?=some oi→oi.isDead=false→ι i=some b→w'.heap[b]?=w.heap[b]?:=by
  intro i oi b hne hi hdi hb
  exact hother b (fun e=>hne (hg.inj i id oi o b hi ho hdi hd hb e))
 have hl: ∀i oi,H[i]?=some oi→ ∃o'',(H.set id .dead++ [o'])[i]?=some o''∧Like ι (upd ι H.length (ι id)) w w' i oi o'':=by
  intro i oi hi
  have hil:=(List.getElem?_eq_some_iff.1 hi).1
  by_cases e:i=id
  ·subst e
   exact ⟨.dead,by rw [List.getElem?_append_left (by simpa using hil)];simp [hil],.inl rfl⟩
  ·refine ⟨oi,by rw [List.getElem?_append_left (by simpa using hil),List.getElem?_set_ne (Ne.symm e)];exact hi,?_⟩
   unfold Like
   cases oi with
   |dead=>exact .inl rfl
   |one s v r=>exact .inr ⟨old i hil,v,r,rfl⟩
   |arr s xs sp r=>exact .inr ⟨old i hil,fun b hb=>AfK (hblk i _ b e hi rfl hb),xs,sp,r,rfl,rfl⟩
   |vec vs=>exact .inr ⟨old i hil,vs,rfl,rfl⟩
 have hown: ∀b,Own (upd ι H.length (ι id)) (H.set id .dead++ [o']) b→Own ι H b:=by
  rintro b ⟨i,oi,h1,h2,h3⟩
  rcases get i oi h1 with ⟨hne,h⟩|⟨rfl,rfl⟩|⟨rfl,rfl⟩
  ·rw [old i (List.getElem?_eq_some_iff.1 h).1] at h3
   exact ⟨i,oi,h,h2,h3⟩
  ·simp [Ob.ro] at h2
  ·rw [new] at h3;exact ⟨id,o,ho,hr,h3⟩
 have hlive: ∀b,Live (upd ι H.length (ι id)) (H.set id .dead++ [o']) b→Live ι H b:=by
  rintro b ⟨i,oi,h1,h2,h3⟩
  rcases get i oi h1 with ⟨hne,h⟩|⟨rfl,rfl⟩|⟨rfl,rfl⟩
  ·rw [old i (List.getElem?_eq_some_iff.1 h).1] at h3
   exact ⟨i,oi,h,h2,h3⟩
  ·simp [Ob.isDead] at h2
  ·rw [new] at h3;exact ⟨id,o,ho,hd,h3⟩
 have hsame: ∀b,b<w.heap.size→ ¬Own ι H b→w'.heap[b]?=w.heap[b]?:=fun b _ hn=>hother b (fun e=>hn ⟨id,o,ho,hr,e⟩)
 have hfs: ∀b,F b→w'.heap[b]?=w.heap[b]?:=fun b hb=>hsame b (hg.fin b hb) (fun h=>hg.sep b h hb)
 refine ⟨⟨fun b hb=>by rw [hsize];exact hg.fin b hb,?_,?_,fun b h hf=>hg.sep b (hown b h) hf,?_⟩,
  ⟨hos,htape,hout,by omega,hsame,fun b _ h=>hown b h,fun _ h=>h,fun _ _ h=> .inl h,hl,fun b _ h=>hlive b h⟩⟩
 ·intro i oi hi
  rcases get i oi hi with ⟨hne,h⟩|⟨rfl,rfl⟩|⟨rfl,rfl⟩
  ·exact (hg.obj i oi h).mono (fun _ h=>h) hfs hl (fun _=>old i (List.getElem?_eq_some_iff.1 h).1) (fun hd b hb=>hblk i oi b hne h hd hb)
  ·trivial
  ·exact hob hl hfs
 ·intro i j oi oj b hi hj hdi hdj bi bj
  rcases get i oi hi with ⟨hne,h⟩|⟨rfl,rfl⟩|⟨rfl,rfl⟩<;>rcases get j oj hj with ⟨hne',h'⟩|⟨rfl,rfl⟩|⟨rfl,rfl⟩
  ·rw [old _ (List.getElem?_eq_some_iff.1 h).1] at bi;rw [old _ (List.getElem?_eq_some_iff.1 h').1] at bj
   exact hg.inj i j oi oj b h h' hdi hdj bi bj
  ·simp [Ob.isDead] at hdj
  ·rw [old _ (List.getElem?_eq_some_iff.1 h).1] at bi;rw [new] at bj
   exact absurd (hg.inj i id oi o b h ho hdi hd bi bj) hne
  ·simp [Ob.isDead] at hdi
  ·simp [Ob.isDead] at hdi
  ·simp [Ob.isDead] at hdi
  ·rw [old _ (List.getElem?_eq_some_iff.1 h').1] at bj;rw [new] at bi
   exact absurd (hg.inj j id oj o b h' ho hdj hd bj bi) hne'
  ·simp [Ob.isDead] at hdj
  ·rfl
 ·intro i oi b hi hdi hri hb
  rcases get i oi hi with ⟨hne,h⟩|⟨rfl,rfl⟩|⟨rfl,rfl⟩
  ·rw [old _ (List.getElem?_eq_some_iff.1 h).1] at hb
   exact hg.rof i oi b h hdi hri hb
  ·simp [Ob.isDead] at hdi
  ·rw [hr'] at hri;contradiction
def Bd (u:Option Value) (d n:Nat):Prop:=match u with
 |none=>n=d
 |some u=> ∃kd z,u= .int kd z∧0≤z∧z.toNat=n
theorem AbB {e:Env} {a:Act} (hs:Sim ι F w H e a) {α:Type} {v:Option Operand} {d:Nat} {k:Nat→Eva.Q α} {R:α→Prop} (h:wpQ S (optIdx (v.map (evalO e)) d k) R): ∃n,Bd (v.map a.eval) d n∧wpQ S (k n) R:=by
 cases v with
 |none=>exact ⟨d,rfl,h⟩
 |some v=>
  obtain ⟨kd,z,h1,h2,h3⟩:=Afj h (Aal hs v)
  exact ⟨z.toNat,⟨kd,z,h1,h2,rfl⟩,h3⟩
theorem AaA {y n:Nat} {kd:IntKind} {z:Int} (code:BoundsCode) (h0:0≤z) (hn:z.toNat=n) (hle:n≤y):(Instr.sliceBound (.int kd z) y code).run P w= .ok n w:=by
 have:z≤y:=by omega
 simp [Instr.sliceBound,asIntOf,h0,this,hn]
theorem AdW {t el:Nat} (hc:CxTy P cx) (he:elemTy cx t=some el) {p:Option Addr} {len cap:Nat} {lo hi mx:Option Value} {l h m:Nat} (hmx:Bd mx cap m) (hhi:Bd hi len h) (hlo:Bd lo 0 l) (hmh:mx.isSome=true→hi.isSome=true)
  (h1:l≤h) (h2:h≤m) (h3:m≤cap):(Instr.sliceAt t (.slice p len cap) lo hi mx).run P w= .ok (.slice (if m=l then p else p.map (·.add (l*sizeOf cx el))) (h-l) (m-l)) w:=by
 obtain ⟨e1,i,inf,e2,e3,e4,e5,e6,e7,e8⟩:=Abo hc he
 have hsz:=Aav hc e2 w
 have hb:(Instr.sliceBounds true len cap lo hi mx).run P w= .ok (l,h,m) w:=by
  unfold Instr.sliceBounds
  cases mx with
  |none=>
   simp only [Bd] at hmx
   subst hmx
   cases hi with
   |none=>
    simp only [Bd] at hhi
    subst hhi
    cases lo with
    |none=>simp only [Bd] at hlo;subst hlo;simp
    |some lo=>obtain ⟨kd,z,rfl,hz,hn⟩:=hlo;simp [AaA (P:=P) (w:=w) _ hz hn h1]
   |some hi=>
    obtain ⟨kd',z',rfl,hz',hn'⟩:=hhi
    cases lo with
    |none=>simp only [Bd] at hlo;subst hlo;simp [AaA (P:=P) (w:=w) _ hz' hn' h2]
    |some lo=>obtain ⟨kd,z,rfl,hz,hn⟩:=hlo;simp [AaA (P:=P) (w:=w) _ hz hn h1,AaA (P:=P) (w:=w) _ hz' hn' h2]
  |some mx=>
   obtain ⟨kd'',z'',rfl,hz'',hn''⟩:=hmx
   cases hi with
   |none=>simp at hmh
   |some hi=>
    obtain ⟨kd',z',rfl,hz',hn'⟩:=hhi
    cases lo with
    |none=>simp only [Bd] at hlo;subst hlo;simp [AaA (P:=P) (w:=w) _ hz' hn' h2,AaA (P:=P) (w:=w) _ hz'' hn'' h3]
    |some lo=>obtain ⟨kd,z,rfl,hz,hn⟩:=hlo;simp [AaA (P:=P) (w:=w) _ hz hn h1,AaA (P:=P) (w:=w) _ hz' hn' h2,AaA (P:=P) (w:=w) _ hz'' hn'' h3]
 simp [Instr.sliceAt,Instr.slice,run_underlying e1,hb,hsz]
theorem AfU {s:Nat} {xs:List T} {p:Option Addr} {len cap l h m:Nat} (ht:TR F w (.sl s xs) (.slice p len cap)) (h1:l≤h) (h2:h≤xs.length) (h3:h≤m) (_:m≤cap):
  TR F w (.sl s ((xs.drop l).take (h-l))) (.slice (if m=l then p else p.map (·.add (l*s))) (h-l) (m-l))∧((xs.drop l).take (h-l)).length=h-l:=by
 have hlen:((xs.drop l).take (h-l)).length=h-l:=by simp;omega
 refine ⟨?_,hlen⟩
 by_cases hz:h-l=0
 ·rw [hz];simp only [List.take_zero];exact .slN _ _ _
 ·cases ht with
  |slN=>simp at h2;omega
  |slC _ _ b oo _ c hn hcap hF hcc hl hr=>
   rw [if_neg (by omega)]
   simp only [Option.map_some,AaD]
   have:=TR.slC (F:=F) (w:=w) s ((xs.drop l).take (h-l)) b (oo+l*s) (m-l) (fun i j=>c (l+i) j) (by intro e;rw [e] at hlen;simp at hlen;omega) (by rw [hlen];omega) hF ?_ ?_ ?_
   ·rw [hlen] at this;exact this
   ·intro i j hi hj
    rw [hlen] at hi
    have:=hcc (l+i) j (by omega) hj
    rw [Nat.add_mul] at this
    simpa [Nat.add_assoc] using this
   ·intro i x hx hne
    rw [List.getElem?_take] at hx
    split at hx
    ·rw [List.getElem?_drop] at hx;exact hl _ x hx hne
    ·contradiction
   ·intro i j x t hx hne ht
    rw [List.getElem?_take] at hx
    split at hx
    ·rw [List.getElem?_drop] at hx;exact hr _ j x t hx hne ht
    ·contradiction
theorem Aep {e:Env} {a:Act} (hs:Sim ι F w H e a) {t el:Nat} (hc:CxTy P cx) (he:elemTy cx t=some el) {s:Nat} {xs:List T} {p:Option Addr} {len cap:Nat} {lo hi mx:Option Operand} {R:V→Prop} (hmh:mx.isSome=true→hi.isSome=true)
  (ht:TR F w (.sl s xs) (.slice p len cap)) (hss:s=sizeOf cx el) (h:wpQ S (sliceTree s xs (lo.map (evalO e)) (hi.map (evalO e)) (mx.map (evalO e))) R):
  ∃r val,R r∧VR ι F w H r val∧ ∀w,(Instr.sliceAt t (.slice p len cap) (lo.map a.eval) (hi.map a.eval) (mx.map a.eval)).run P w= .ok val w:=by
 subst hss
 have hlen:len=xs.length∧len≤cap:=by
  cases ht with
  |slN=>exact ⟨rfl,Nat.zero_le _⟩
  |slC _ _ b oo _ c hn hcap=>exact ⟨rfl,hcap⟩
 obtain ⟨rfl,hcap⟩:=hlen
 unfold sliceTree at h
 obtain ⟨l,hl,h⟩:=AbB hs h
 obtain ⟨h',hh,h⟩:=AbB hs h
 cases mx with
 |none=>
  obtain ⟨⟨c1,c2⟩,h⟩:=h
  obtain ⟨k1,k2⟩:=AfU ht c1 c2 (Nat.le_trans c2 hcap) (Nat.le_refl cap)
  exact ⟨_,_,h,.t _ _ k1,fun _=>AdW hc he (mx:=none) rfl hh hl (by simp) c1 (Nat.le_trans c2 hcap) (Nat.le_refl _)⟩
 |some mo=>
  simp only [Option.map_some] at h
  obtain ⟨kd,z,q1,q2,⟨c1,c2,c3⟩,h⟩:=Afj h (Aal hs mo)
  obtain ⟨k1,k2⟩:=AfU (m:=h') ht c1 c3 (Nat.le_refl _) (Nat.le_trans c3 hcap)
  refine ⟨_,_,h,?_,fun _=>AdW hc he (mx:=some (a.eval mo)) (m:=h') ⟨kd,z,q1,q2,c2.symm⟩ hh hl (by simpa using hmh) c1 (Nat.le_refl _) (Nat.le_trans c3 hcap)⟩
  generalize (xs.drop l).take (h'-l)=ys at k1 k2⊢
  rw [←k2] at k1⊢
  exact .fit _ _ _ k1
theorem Ahv {e:Env} {a:Act} (hs:Sim ι F w H e a) {t el:Nat} (hc:CxTy P cx) (he:elemTy cx t=some el) {s:Nat} {xs:List T} {p:Option Addr} {lo hi mx:Option Operand} {R:V→Prop} (hmh:mx.isSome=true→hi.isSome=true)
  (ht:TR F w (.sl s xs) (.slice p xs.length xs.length)) (hss:s=sizeOf cx el) (h:wpQ S (sliceFit s xs (lo.map (evalO e)) (hi.map (evalO e)) (mx.map (evalO e))) R):
  ∃r val,R r∧VR ι F w H r val∧ ∀w,(Instr.sliceAt t (.slice p xs.length xs.length) (lo.map a.eval) (hi.map a.eval) (mx.map a.eval)).run P w= .ok val w:=by
 cases mx with
 |some mo=>exact Aep hs hc he hmh ht hss h
 |none=>
  subst hss
  unfold sliceFit at h
  obtain ⟨l,hl,h⟩:=AbB hs h
  obtain ⟨h',hh,h⟩:=AbB hs h
  obtain ⟨⟨c1,c2⟩,h⟩:=h
  obtain ⟨k1,k2⟩:=AfU ht c1 c2 c2 (Nat.le_refl xs.length)
  by_cases hq:h'=xs.length
  ·replace h:wpQ S (Q.ret (V.fit (sizeOf cx el) ((xs.drop l).take (h'-l)))) R:=by
    simp only [wpQ] at h
    rw [decide_eq_true hq] at h
    exact h
   refine ⟨_,_,h,?_,fun _=>AdW hc he (mx:=none) rfl hh hl (by simp) c1 c2 (Nat.le_refl _)⟩
   rw [←hq] at k1⊢
   generalize (xs.drop l).take (h'-l)=ys at k1 k2⊢
   rw [←k2] at k1⊢
   exact .fit _ _ _ k1
  ·replace h:wpQ S (Q.ret (V.t (.sl (sizeOf cx el) ((xs.drop l).take (h'-l))))) R:=by
    simp only [wpQ] at h
    rw [decide_eq_false hq] at h
    exact h
   exact ⟨_,_,h,.t _ _ k1,fun _=>AdW hc he (mx:=none) rfl hh hl (by simp) c1 c2 (Nat.le_refl _)⟩
end
end Go.Eva
namespace Go.Eva
open Go.RowKit
section
variable {P:Program} {cx:Cx} {S:Task→(Res→Prop)→Prop} {w:World} {ι:Io} {F:Nat→Prop} {H:Heap}
def CapR (ι:Io) (w:World) (id off:Nat) (lim:Option Nat) (s:Nat) (p:Option Addr) (cap:Nat):Prop:=match ι id with
 |none=>cap=0
 |some b=>(cap=0∨p=some ⟨b,off*s,none⟩)∧(match lim with
  |some l=>off+cap=l∧l*s≤blk w b
  |none=>(off+cap)*s=blk w b)
theorem Ajz {ι':Io} {H':Heap} {id id' off cap l h m:Nat} {lim lim':Option Nat} {s:Nat} {xs':List T} {sp':Option Nat} {ro':Bool} {p:Option Addr}
  (ho':H'[id']?=some (.arr s xs' sp' ro')) (hι:ι' id'=ι id)
  (hv:CapR ι w id off lim s p cap)
  (h1:l≤h) (h2:h≤m) (h3:m≤cap) (h4:off+h≤xs'.length) (hlim:lim'=some (off+m)∨(lim'=lim∧m=cap)):
  OwnSl ι' w H' id' (off+l) (some (h-l)) lim' (.slice (if m=l then p else p.map (·.add (l*s))) (h-l) (m-l)):=by
 unfold OwnSl
 rw [ho',hι]
 simp only [Option.getD_some]
 refine ⟨_,_,rfl,by omega,by omega,?_⟩
 unfold CapR at hv
 cases hb:ι id with
 |none=>rw [hb] at hv;simp only at hv⊢;omega
 |some b=>
  rw [hb] at hv
  simp only at hv⊢
  obtain ⟨k1,k2⟩:=hv
  refine ⟨?_,?_⟩
  ·by_cases e:m=l
   ·left;omega
   ·right
    rcases k1 with k1|rfl
    ·omega
    ·rw [if_neg e];simp [AaD,Nat.add_mul]
  ·rcases hlim with rfl|⟨rfl,rfl⟩
   ·refine ⟨by omega,?_⟩
    cases lim with
    |none=>
     simp only at k2
     have:(off+m)*s≤(off+cap)*s:=Nat.mul_le_mul_right s (by omega)
     omega
    |some t=>
     simp only at k2
     have:(off+m)*s≤t*s:=Nat.mul_le_mul_right s (by omega)
     omega
   ·cases lim' with
    |none=>simp only at k2⊢;rw [show off+l+(m-l)=off+m by omega];exact k2
    |some t=>simp only at k2⊢;refine ⟨by omega,k2.2⟩
theorem Adg {id off:Nat} {n lim:Option Nat} {v:Value} {s:Nat} {xs:List T} {sp:Option Nat} {ro:Bool} (ho:H[id]?=some (.arr s xs sp ro)) (h:OwnSl ι w H id off n lim v):
  ∃a cap,v= .slice a (n.getD xs.length) cap∧n.getD xs.length≤cap∧off+n.getD xs.length≤xs.length∧CapR ι w id off lim s a cap:=by
 unfold OwnSl at h
 rw [ho] at h
 exact h
theorem Ajy (hg:Good ι F w H) {id:Nat} {s:Nat} {xs:List T} {sp:Option Nat} {ro:Bool} (ho:H[id]?=some (.arr s xs sp ro)):
  0<s∧((ι id=none∧xs= []∧ ∀k,sp=some k→k=0)∨ ∃b cs e,ι id=some b∧w.heap[b]?=some (.cells cs e (0,0))∧blk w b=cs.size∧
   xs.length*s≤cs.size∧(∀k,sp=some k→(xs.length+k)*s=cs.size)∧(∃m,cs.size=m*s)∧(∀(i:Nat) (c:Value),cs[i]?=some c→c.oneCell'=true)∧CellsR F w b s xs):=by
 obtain ⟨h0,h⟩:=hg.obj id _ ho
 refine ⟨h0,?_⟩
 rcases h with h|⟨b,cs,e,h1,h2,h3⟩
 ·exact .inl h
 ·refine .inr ⟨b,cs,e,h1,h2,?_,h3⟩
  unfold blk;rw [h2]
theorem AeP {e:Env} {a:Act} (hg:Good ι F w H) (hs:Sim ι F w H e a) {t el:Nat} (hc:CxTy P cx) (he:elemTy cx t=some el) {id off len:Nat} {lim:Option Nat} {u:Value} {lo hi mx:Option Operand} {R:V×Heap→Prop}
  (hmh:mx.isSome=true→hi.isSome=true) {n:Option Nat} (hlen: ∀s xs sp ro,H[id]?=some (.arr s xs sp ro)→n.getD xs.length=len) (hv:OwnSl ι w H id off n lim u)
  (h:wpQ S (sliceOwn (sizeOf cx el) id off len lim H (lo.map (evalO e)) (hi.map (evalO e)) (mx.map (evalO e))) R):
  ∃v H' ι' val,R (v,H')∧Good ι' F w H'∧Step ι F H w ι' F H' w∧VR ι' F w H' v val∧ ∀w,(Instr.sliceAt t u (lo.map a.eval) (hi.map a.eval) (mx.map a.eval)).run P w= .ok val w:=by
 unfold sliceOwn at h
 rw [Aaj] at h
 split at h
 ·rename_i s xs sp ro ho
  split at h
  ·exact h.elim
  ·rename_i hbeq
   have hss:=Nat.eq_of_beq_eq_true hbeq
   obtain ⟨p,cap,rfl,q1,q2,q3⟩:=Adg ho hv
   rw [hlen _ _ _ _ ho] at q1 q2⊢
   obtain ⟨hs0,hob⟩:=Ajy hg ho
   obtain ⟨l,hl,hA⟩:=AbB hs h
   clear h
   obtain ⟨h',hh,h⟩:=AbB hs hA
   clear hA
   have plain: ∀(m:Nat) (lim':Option Nat),Bd (mx.map a.eval) cap m→l≤h'→h'≤m→m≤cap→off+h'≤xs.length→(lim'=some (off+m)∨(lim'=lim∧m=cap))→R (.sl id (off+l) (h'-l) lim',H)→
     ∃v H' ι' val,R (v,H')∧Good ι' F w H'∧Step ι F H w ι' F H' w∧VR ι' F w H' v val∧ ∀w,(Instr.sliceAt t (.slice p len cap) (lo.map a.eval) (hi.map a.eval) (mx.map a.eval)).run P w= .ok val w:=by
    intro m lim' hmx c1 c2 c3 c4 c5 hR
    refine ⟨_,_,ι,_,hR,hg,.refl ι F H w,.sl _ _ _ _ _ (Ajz ho rfl q3 c1 c2 c3 c4 c5),fun w=> ?_⟩
    have:=AdW hc he hmx hh hl (by simpa using hmh) c1 c2 c3 (P:=P) (w:=w) (p:=p)
    rw [hss]
    exact this
   cases mx with
   |some mo=>
    simp only [Option.map_some] at h
    obtain ⟨kd,z,z1,z2,⟨c1,c2,c3⟩,h⟩:=Afj h (Aal hs mo)
    exact plain z.toNat _ ⟨kd,z,z1,z2,rfl⟩ c1 c2 (by omega) (by omega) (.inl rfl) h
   |none=>
    simp only [Option.map_none] at h
    obtain ⟨rm,hq,hrm⟩:=Ak1 h
    clear h
    have h:=hq
    clear hq
    split at h
    ·rename_i k
     obtain ⟨rfl,hk⟩:=hrm
     obtain ⟨k,rfl⟩:=Nat.exists_eq_succ_of_ne_zero hk
     simp only [Nat.succ_eq_add_one] at*
     obtain ⟨⟨c1,c2⟩,h⟩:=h
     rcases hob with ⟨_,_,hsp⟩|⟨b,cs,ty,b1,b2,b3,b4,b5,b6,b7,b8⟩
     ·have:=hsp _ rfl
      omega
     have q3':=q3
     unfold CapR at q3
     rw [b1] at q3
     simp only at q3
     have hcap:off+cap=xs.length+(k+1):=by
      have:=b5 _ rfl
      rw [b3,←this] at q3
      exact Nat.eq_of_mul_eq_mul_right hs0 q3.2
     simp only [wpQ] at h
     split at h
     ·rename_i hd
      exact plain cap _ rfl c1 (by omega) (Nat.le_refl _) (by simpa using hd) (.inr ⟨rfl,rfl⟩) h
     ·rename_i hd
      split at h
      ·exact h.elim
      ·obtain ⟨hid,h⟩:=Abj (Aaa _ _ _ h)
       have h:=Aa5 (Aaa _ _ _ h)
       have hsz:(xs.length+(k+1))*s=cs.size:=b5 _ rfl
       have hxl:xs.length*s≤(xs.length+(k+1))*s:=Nat.mul_le_mul_right s (by omega)
       obtain ⟨k1,k2⟩:=AeM (w':=w) hg ho rfl rfl (o':= .arr s (xs++zj (k+1) .any) (some 0) false) rfl rfl rfl rfl rfl (fun _ _=>rfl) (fun _ _=>⟨hs0,.inr ⟨b,cs,ty,by simp [upd,b1],b2,by simp;omega,
        by simpa using hsz,b6,b7,by
        obtain ⟨c,d1,d2,d3⟩:=b8
        have hcell: ∀n,n<cs.size→w.cell? ⟨b,n,none⟩=some (cs.getD n undef)∧(cs.getD n undef).oneCell'=true:=by
         intro n hn
         rw [cell_of_row w b n cs ty _ b2]
         have hget:cs[n]?=some cs[n]:=by simp [hn]
         simp [hn]
         exact b7 n _ hget
        refine ⟨fun i j=>cs.getD (i*s+j) undef,?_,?_,?_⟩
        ·intro i j hi hj
         refine hcell _ ?_
         simp at hi
         have:(i+1)*s≤(xs.length+(k+1))*s:=Nat.mul_le_mul_right s (by omega)
         rw [Nat.add_mul,Nat.one_mul] at this
         omega
        ·intro i x hx hne
         rcases Nat.lt_or_ge i xs.length with hi|hi
         ·rw [List.getElem?_append_left hi] at hx;exact d2 i x hx hne
         ·rw [List.getElem?_append_right hi,List.getElem?_replicate] at hx
          split at hx<;>simp_all
        ·intro i j x t hx hne ht
         rcases Nat.lt_or_ge i xs.length with hi|hi
         ·rw [List.getElem?_append_left hi] at hx
          have hj:j<s:=by
           have:=d2 i x hx hne
           have:=(List.getElem?_eq_some_iff.1 ht).1
           omega
          have h5:=d3 i j x t hx hne ht
          have h6:=(d1 i j hi hj).1
          have h7:=(hcell (i*s+j) (by
           have:(i+1)*s≤(xs.length+(k+1))*s:=Nat.mul_le_mul_right s (by omega)
           rw [Nat.add_mul,Nat.one_mul] at this
           omega)).1
          rw [h6] at h7
          show TR F w t (cs.getD (i*s+j) undef)
          rw [←Option.some.inj h7]
          exact h5
         ·rw [List.getElem?_append_right hi,List.getElem?_replicate] at hx
          split at hx<;>simp_all⟩⟩)
       have hlen':(H.set id .dead).length=H.length:=by simp
       rw [hlen'] at h
       have hnew:(H.set id .dead++ [Ob.arr s (xs++zj (k+1) .any) (some 0) false])[H.length]?=some (.arr s (xs++zj (k+1) .any) (some 0) false):=by
        rw [List.getElem?_append_right (by omega)];simp
       refine ⟨_,_,_,_,h,k1,k2,.sl _ _ _ _ _ (Ajz (id:=id) (m:=cap) (ι:=ι) (p:=p) hnew (by simp [upd]) q3' c1 (by omega) (Nat.le_refl _) (by simp;omega) (.inr ⟨rfl,rfl⟩)),fun w=> ?_⟩
       have:=AdW (mx:=none) hc he rfl hh hl (by simp) c1 (by omega) (Nat.le_refl cap) (P:=P) (w:=w) (p:=p)
       rw [hss]
       exact this
    ·rename_i tt sp'
     obtain ⟨⟨c1,c2,c3⟩,h⟩:=h
     have:h'≤cap:=by
      unfold CapR at q3
      rcases hob with ⟨b1,b2,_⟩|⟨b,cs,ty,b1,b2,b3,b4,b5,b6,b7,b8⟩
      ·subst b2;simp at c3;omega
      ·rw [b1] at q3
       simp only at q3
       omega
     exact plain cap _ rfl c1 this (Nat.le_refl _) (by omega) (.inr ⟨rfl,rfl⟩) h
    ·have hrm:sp=some 0:=hrm
     subst hrm
     obtain ⟨⟨c1,c2⟩,h⟩:=h
     rcases hob with ⟨b1,b2,b3⟩|⟨b,cs,ty,b1,b2,b3,b4,b5,b6,b7,b8⟩
     ·subst b2
      have hz:h'=0:=by simp at c2;omega
      exact plain cap _ rfl c1 (by omega) (Nat.le_refl _) (by simpa using c2) (.inr ⟨rfl,rfl⟩) h
     ·have q3':=q3
      unfold CapR at q3
      rw [b1] at q3
      simp only at q3
      have hcap:off+cap=xs.length:=by
       have:=b5 _ rfl
       rw [b3,←this] at q3
       exact Nat.eq_of_mul_eq_mul_right hs0 q3.2
      exact plain cap _ rfl c1 (by omega) (Nat.le_refl _) (by omega) (.inr ⟨rfl,rfl⟩) h
    ·obtain ⟨⟨c1,c2⟩,h⟩:=h
     exact plain cap _ rfl c1 (by omega) (Nat.le_refl _) (by omega) (.inr ⟨rfl,rfl⟩) h
 ·exact h.elim
theorem Ajb {e:Env} {a:Act} (hg:Good ι F w H) (hs:Sim ι F w H e a) {t el:Nat} (hc:CxTy P cx) (he:elemTy cx t=some el) {v:V} {u:Value} {lo hi mx:Option Operand} {R:V×Heap→Prop}
  (hmh:mx.isSome=true→hi.isSome=true) (hv:VR ι F w H v u)
  (h:wpQ S (sliceV (sizeOf cx el) v H (lo.map (evalO e)) (hi.map (evalO e)) (mx.map (evalO e))) R):
  ∃v H' ι' val,R (v,H')∧Good ι' F w H'∧Step ι F H w ι' F H' w∧VR ι' F w H' v val∧ ∀w,(Instr.sliceAt t u (lo.map a.eval) (hi.map a.eval) (mx.map a.eval)).run P w= .ok val w:=by
 unfold sliceV at h
 split at h
 ·split at h
  ·rename_i hbeq
   have ht:=hv.t_inv
   have hsl: ∃p n c,u= .slice p n c:=by cases ht<;>exact ⟨_,_,_,rfl⟩
   obtain ⟨p,n,c,rfl⟩:=hsl
   obtain ⟨r,val,h1,h2,h3⟩:=Aep hs hc he hmh ht (Nat.eq_of_beq_eq_true hbeq) (Aaa _ _ _ h)
   exact ⟨r,H,ι,val,h1,hg,.refl ι F H w,h2,h3⟩
  ·exact h.elim
 ·split at h
  ·rename_i hbeq
   cases hv with
   |fit _ _ p ht=>
   obtain ⟨r,val,h1,h2,h3⟩:=Ahv hs hc he hmh ht (Nat.eq_of_beq_eq_true hbeq) (Aaa _ _ _ h)
   exact ⟨r,H,ι,val,h1,hg,.refl ι F H w,h2,h3⟩
  ·exact h.elim
 ·split at h
  ·rename_i id lim s xs sp ro ho
   rw [Aaj] at ho
   cases hv with
   |all _ _ _ hv=>
   exact AeP hg hs hc he hmh (n:=none) (fun s' xs' sp' ro' h=>by rw [ho] at h;simp at h;simp [h.2.1]) hv h
  ·exact h.elim
 ·cases hv with
  |sl _ _ _ _ _ hv=>
  exact AeP hg hs hc he hmh (n:=some _) (fun _ _ _ _ _=>rfl) hv h
 ·exact h.elim
end
section
variable {P:Program} {cx:Cx} {S:Task→(Res→Prop)→Prop} {o:Oper} {e:Env} {H:Heap} {a:Act} {w:World} {ι:Io} {F:Nat→Prop} {R:V×Heap→Prop} {Q:Exit→Act→World→Prop}
theorem AhX (hc:CxTy P cx) (hg:Good ι F w H) (hs:Sim ι F w H e a) (t:Nat) (x:Operand) (lo hi mx:Option Operand) (ho:o.op= .slice t x lo hi mx) (h:wpQ S (opQ cx o e H) R):
  Still Any P R o ι F H w a:=by
 unfold opQ at h
 rw [ho] at h
 simp only at h
 split at h
 ·exact h.elim
 ·rename_i hmh
  split at h
  ·rename_i el he
   obtain ⟨v,h,hv⟩:=AbM (Aaa _ _ _ h) (Aal hs x)
   obtain ⟨v',H',ι',val,k1,k2,k3,k4,k5⟩:=Ajb hg hs hc he (by cases mx<;>cases hi<;>simp_all) hv h
   refine ⟨v',H',ι',F,val,k1,k2,k3,k4,fun w _=> ?_⟩
   simp [execOp,ho,k5 w]
  ·exact h.elim
end
end Go.Eva
namespace Go.Eva
open Go.RowKit
structure Row (F:Nat→Prop) (w:World) (s:Nat) (xs:List T) (vs:List Value):Prop where
 len:vs.length=xs.length*s
 one: ∀v∈vs,v.oneCell'=true
 size: ∀(i:Nat) (x:T),xs[i]?=some x→x≠ .any→x.cells.length=s
 rel: ∀(i j:Nat) (x t:T) (v:Value),xs[i]?=some x→x≠ .any→x.cells[j]?=some t→vs[i*s+j]?=some v→TR F w t v
section
variable {P:Program} {cx:Cx} {S:Task→(Res→Prop)→Prop} {w:World} {ι:Io} {F:Nat→Prop} {H:Heap} {s:Nat}
theorem Row.mono {F':Nat→Prop} {w':World} {xs:List T} {vs:List Value} (hF: ∀b,F b→F' b) (hw: ∀b,F b→w'.heap[b]?=w.heap[b]?) (h:Row F w s xs vs):Row F' w' s xs vs:=
 ⟨h.len,h.one,h.size,fun i j x t v h1 h2 h3 h4=>(h.rel i j x t v h1 h2 h3 h4).mono hF hw⟩
theorem Row.nil:Row F w s [] []:=⟨by simp,by simp,by simp,by simp⟩
theorem Row.append {xs ys:List T} {us vs:List Value} (h:Row F w s xs us) (k:Row F w s ys vs):Row F w s (xs++ys) (us++vs):=by
 refine ⟨by simp [h.len,k.len,Nat.add_mul],?_,?_,?_⟩
 ·intro v hv
  rcases List.mem_append.1 hv with hv|hv
  ·exact h.one v hv
  ·exact k.one v hv
 ·intro i x hx hne
  rcases Nat.lt_or_ge i xs.length with hi|hi
  ·rw [List.getElem?_append_left hi] at hx;exact h.size i x hx hne
  ·rw [List.getElem?_append_right hi] at hx;exact k.size _ x hx hne
 ·intro i j x t v hx hne ht hv
  rcases Nat.lt_or_ge i xs.length with hi|hi
  ·rw [List.getElem?_append_left hi] at hx
   have hj:j<s:=by
    have:=h.size i x hx hne
    have:=(List.getElem?_eq_some_iff.1 ht).1
    omega
   have:(i+1)*s≤xs.length*s:=Nat.mul_le_mul_right s hi
   rw [Nat.add_mul,Nat.one_mul] at this
   rw [List.getElem?_append_left (by rw [h.len];omega)] at hv
   exact h.rel i j x t v hx hne ht hv
  ·rw [List.getElem?_append_right hi] at hx
   have:xs.length*s≤i*s:=Nat.mul_le_mul_right s hi
   rw [List.getElem?_append_right (by rw [h.len];omega),h.len] at hv
   refine k.rel (i-xs.length) j x t v hx hne ht ?_
   rw [Nat.sub_mul,show i*s-xs.length*s+j=i*s+j-xs.length*s by omega]
   exact hv
theorem Row.take {xs:List T} {vs:List Value} (h:Row F w s xs vs) (n:Nat):Row F w s (xs.take n) (vs.take (n*s)):=by
 refine ⟨?_,fun v hv=>h.one v (List.mem_of_mem_take hv),?_,?_⟩
 ·rw [List.length_take,List.length_take,h.len,←Nat.mul_min_mul_right]
 ·intro i x hx hne
  rw [List.getElem?_take] at hx
  split at hx
  ·exact h.size i x hx hne
  ·contradiction
 ·intro i j x t v hx hne ht hv
  rw [List.getElem?_take] at hx hv
  split at hx
  ·split at hv
   ·exact h.rel i j x t v hx hne ht hv
   ·contradiction
  ·contradiction
theorem Row.drop {xs:List T} {vs:List Value} (h:Row F w s xs vs) (n:Nat):Row F w s (xs.drop n) (vs.drop (n*s)):=by
 refine ⟨?_,fun v hv=>h.one v (List.mem_of_mem_drop hv),?_,?_⟩
 ·rw [List.length_drop,List.length_drop,h.len,Nat.sub_mul]
 ·intro i x hx hne
  rw [List.getElem?_drop] at hx
  exact h.size _ x hx hne
 ·intro i j x t v hx hne ht hv
  rw [List.getElem?_drop] at hx hv
  refine h.rel (n+i) j x t v hx hne ht ?_
  rw [Nat.add_mul,Nat.add_assoc]
  exact hv
theorem Aei {xs:List T} {c:Nat→Nat→Value} (h1: ∀i j,i<xs.length→j<s→(c i j).oneCell'=true) (hs: ∀(i:Nat) (x:T),xs[i]?=some x→x≠ .any→x.cells.length=s)
  (hr: ∀(i j:Nat) (x t:T),xs[i]?=some x→x≠ .any→x.cells[j]?=some t→TR F w t (c i j)):
  Row F w s xs ((List.range (xs.length*s)).map fun k=>c (k/s) (k%s)):=by
 refine ⟨by simp,?_,hs,?_⟩
 ·intro v hv
  simp at hv
  obtain ⟨k,hk,rfl⟩:=hv
  have h0:0<s:=by rcases Nat.eq_zero_or_pos s with rfl|h;simp at hk;exact h
  exact h1 _ _ (Nat.div_lt_of_lt_mul (by rw [Nat.mul_comm];exact hk)) (Nat.mod_lt _ h0)
 ·intro i j x t v hx hne ht hv
  have hj:j<s:=by
   have:=hs i x hx hne
   have:=(List.getElem?_eq_some_iff.1 ht).1
   omega
  have hlt:=(List.getElem?_eq_some_iff.1 hx).1
  simp at hv
  obtain ⟨k,hk,rfl⟩:=hv
  rw [List.getElem?_range (by
   have:(i+1)*s≤xs.length*s:=Nat.mul_le_mul_right s hlt
   rw [Nat.add_mul,Nat.one_mul] at this
   omega)] at hk
  obtain rfl:=Option.some.inj hk
  have e1:(i*s+j)/s=i:=by rw [Nat.mul_comm,Nat.mul_add_div (by omega),Nat.div_eq_of_lt hj];omega
  have e2:(i*s+j)%s=j:=by rw [Nat.mul_comm,Nat.mul_add_mod,Nat.mod_eq_of_lt hj]
  rw [e1,e2]
  exact hr i j x t hx hne ht
def Reads (P:Program) (w:World) (s n:Nat) (u:Value) (vs:List Value):Prop:= ∀w':World,w'.heap=w.heap→(Builtin.firstCells s n u).run P w'= .ok vs.toArray w'
theorem AjH {w w':World} (h:w'.heap=w.heap) (a:Addr):w'.cell? a=w.cell? a:=World.cell?_of_block (by rw [h])
theorem Aea {b o n len cap:Nat} {vs:List Value} (hl:vs.length=n*s) (h: ∀(j:Nat) v,vs[j]?=some v→w.cell? ⟨b,o+j,none⟩=some v):Reads P w s n (.slice (some ⟨b,o,none⟩) len cap) vs:=by
 intro w' hw
 refine run_firstCells_some w' s n _ len cap vs hl (fun j v hv=> ?_)
 rw [AaD,AjH hw]
 exact h j v hv
theorem AdS {b o n len cap:Nat} {vs:List Value} (hl:n*s≤vs.length) (h: ∀(j:Nat) v,vs[j]?=some v→w.cell? ⟨b,o+j,none⟩=some v):Reads P w s n (.slice (some ⟨b,o,none⟩) len cap) (vs.take (n*s)):=by
 refine Aea (by simp;omega) (fun j v hv=> ?_)
 rw [List.getElem?_take] at hv
 split at hv
 ·exact h j v hv
 ·contradiction
theorem AaH {p:Option Addr} {len cap:Nat}:Reads P w s 0 (.slice p len cap) []:=by
 intro w' hw
 cases p with
 |none=>exact run_firstCells_none w' s 0 len cap
 |some a=>exact run_firstCells_some w' s 0 a len cap [] (by simp) (by simp)
theorem AdN {p:Option Addr} {len cap:Nat}: ∀n,n≤([]:List T).length→Reads P w s n (.slice p len cap) (([]:List Value).take (n*s)):=by
 intro n hn
 have:n=0:=by simpa using hn
 subst this
 simpa using AaH
theorem AiN {b o len cap n:Nat} {xs:List T} {c:Nat→Nat→Value} (h1: ∀i j,i<xs.length→j<s→w.cell? ⟨b,o+i*s+j,none⟩=some (c i j)) (hn:n≤xs.length):
  Reads P w s n (.slice (some ⟨b,o,none⟩) len cap) (((List.range (xs.length*s)).map fun k=>c (k/s) (k%s)).take (n*s)):=by
 refine AdS (by simp;exact Nat.mul_le_mul_right _ hn) ?_
 intro j v hv
 simp at hv
 obtain ⟨k,hk,rfl⟩:=hv
 have hj:j<xs.length*s:=by
  have:=(List.getElem?_eq_some_iff.1 hk).1
  simpa using this
 rw [List.getElem?_range hj] at hk
 obtain rfl:=Option.some.inj hk
 have h0:0<s:=by rcases Nat.eq_zero_or_pos s with rfl|h;simp at hj;exact h
 have:=h1 (j/s) (j%s) (Nat.div_lt_of_lt_mul (by rw [Nat.mul_comm];exact hj)) (Nat.mod_lt _ h0)
 rw [show o+j/s*s+j%s=o+j by rw [Nat.add_assoc,Nat.div_add_mod']] at this
 exact this
theorem AdU {xs:List T} {p:Option Addr} {len cap:Nat} (h:TR F w (.sl s xs) (.slice p len cap)):len=xs.length∧ ∃vs,Row F w s xs vs∧ ∀n,n≤xs.length→Reads P w s n (.slice p len cap) (vs.take (n*s)):=by
 cases h with
 |slN=>exact ⟨rfl,[],.nil,AdN⟩
 |slC _ _ b oo _ c hn hcap hF hcc hl hr=>
  exact ⟨rfl,_,Aei (fun i j hi hj=>(hcc i j hi hj).2) hl hr,fun n hn=>AiN (fun i j hi hj=>(hcc i j hi hj).1) hn⟩
theorem Acp (hg:Good ι F w H) {id:Nat} {xs:List T} {sp:Option Nat} {ro:Bool} (ho:H[id]?=some (.arr s xs sp ro)):
  0<s∧((ι id=none∧xs= []∧ ∀k,sp=some k→k=0)∨ ∃b cs e,ι id=some b∧w.heap[b]?=some (.cells cs e (0,0))∧blk w b=cs.size∧
   xs.length*s≤cs.size∧(∀k,sp=some k→(xs.length+k)*s=cs.size)∧(∃m,cs.size=m*s)∧(∀(i:Nat) (c:Value),cs[i]?=some c→c.oneCell'=true)∧Row F w s xs (cs.toList.take (xs.length*s))):=by
 obtain ⟨h0,h⟩:=Ajy hg ho
 refine ⟨h0,?_⟩
 rcases h with h|⟨b,cs,e,b1,b2,b3,b4,b5,b6,b7,c,d1,d2,d3⟩
 ·exact .inl h
 refine .inr ⟨b,cs,e,b1,b2,b3,b4,b5,b6,b7,⟨by simp;omega,?_,d2,?_⟩⟩
 ·intro v hv
  have hv:=List.mem_of_mem_take hv
  obtain ⟨i,hi,rfl⟩:=List.getElem_of_mem hv
  exact b7 i _ (by simp at hi;simp [hi])
 ·intro i j x t v hx hne ht hv
  have hi:=(List.getElem?_eq_some_iff.1 hx).1
  have hj:j<s:=by
   have:=d2 i x hx hne
   have:=(List.getElem?_eq_some_iff.1 ht).1
   omega
  have h5:=(d1 i j hi hj).1
  rw [cell_of_row w b _ cs e _ b2] at h5
  rw [List.getElem?_take] at hv
  split at hv
  ·have:cs[i*s+j]?=some v:=by simpa using hv
   rw [this] at h5
   rw [Option.some.inj h5]
   exact d3 i j x t hx hne ht
  ·contradiction
theorem Ahw {w':World} {id b:Nat} {xs:List T} {vs rest:List Value} {cs:Array Value} {e:TypeId} {sp:Option Nat} {ro:Bool} (h0:0<s) (hb:ι id=some b) (hh:w'.heap[b]?=some (.cells cs e (0,0))) (hr:Row F w' s xs vs)
  (hcs:cs.toList=vs++rest) (hone: ∀v∈rest,v.oneCell'=true) (hm: ∃m,cs.size=m*s) (hsp: ∀k,sp=some k→(xs.length+k)*s=cs.size):ObR ι F w' H id (.arr s xs sp ro):=by
 have hsz:cs.size=vs.length+rest.length:=by rw [←Array.length_toList,hcs,List.length_append]
 have hget: ∀k,k<vs.length→cs[k]?=vs[k]?:=by
  intro k hk
  rw [←Array.getElem?_toList,hcs,List.getElem?_append_left hk]
 have hlen:=hr.len
 refine ⟨h0,.inr ⟨b,cs,e,hb,hh,by omega,hsp,hm,?_,fun i j=>vs.getD (i*s+j) undef,?_,hr.size,?_⟩⟩
 ·intro i c hc
  rw [←Array.getElem?_toList,hcs] at hc
  have:=List.mem_of_getElem? hc
  rcases List.mem_append.1 this with h|h
  ·exact hr.one _ h
  ·exact hone _ h
 ·intro i j hi hj
  have:(i+1)*s≤xs.length*s:=Nat.mul_le_mul_right s hi
  rw [Nat.add_mul,Nat.one_mul] at this
  have hk:i*s+j<vs.length:=by omega
  rw [cell_of_row w' b _ cs e _ hh,hget _ hk]
  simp [hk]
  exact hr.one _ (List.getElem_mem hk)
 ·intro i j x t hx hne ht
  have hi:=(List.getElem?_eq_some_iff.1 hx).1
  have hj:j<s:=by
   have:=hr.size i x hx hne
   have:=(List.getElem?_eq_some_iff.1 ht).1
   omega
  have:(i+1)*s≤xs.length*s:=Nat.mul_le_mul_right s hi
  rw [Nat.add_mul,Nat.one_mul] at this
  have hk:i*s+j<vs.length:=by omega
  exact hr.rel i j x t _ hx hne ht (by simp [List.getD,hk])
theorem AkQ {z:T} {zc:Array Value} (n:Nat) (hz:zc.size=s) (h1: ∀(i:Nat) c,zc[i]?=some c→c.oneCell'=true) (hs:z≠ .any→z.cells.length=s) (hr: ∀(j:Nat) t c,z.cells[j]?=some t→zc[j]?=some c→TR F w t c):
  Row F w s (zj n z) (((Array.range (n*s)).map fun k=>zc[k%s]!).toList):=by
 have:=Aei (F:=F) (w:=w) (s:=s) (xs:=zj n z) (c:=fun _ j=>zc[j]!) ?_ ?_ ?_
 ·simpa using this
 ·intro i j _ hj
  have hj:j<zc.size:=by omega
  simp [hj]
  exact h1 j _ (by simp [hj])
 ·intro i x hx hne
  rw [List.getElem?_replicate] at hx
  split at hx
  ·obtain rfl:=Option.some.inj hx
   exact hs hne
  ·contradiction
 ·intro i j x t hx hne ht
  rw [List.getElem?_replicate] at hx
  split at hx
  ·obtain rfl:=Option.some.inj hx
   have hj:j<zc.size:=by
    have:=hs hne
    have:=(List.getElem?_eq_some_iff.1 ht).1
    omega
   exact hr j t _ ht (by simp [hj])
  ·contradiction
end
end Go.Eva
namespace Go.Eva
open Go.RowKit
section
variable {P:Program} {cx:Cx} {S:Task→(Res→Prop)→Prop} {w:World} {ι:Io} {F:Nat→Prop} {H:Heap} {s:Nat}
theorem AiU {x y:Operand} (h:sameOp x y=true):x=y:=by
 unfold sameOp at h
 split at h
 ·exact congrArg _ (Nat.eq_of_beq_eq_true h)
 ·contradiction
theorem AiI (hg:Good ι F w H) (h0:0<s) {xs:List T} {vs rest:List Value} {cs:Array Value} (e:TypeId) {sp:Option Nat} (hr:Row F w s xs vs) (hcs:cs.toList=vs++rest) (hone: ∀v∈rest,v.oneCell'=true)
  (hm: ∃m,cs.size=m*s) (hsp: ∀k,sp=some k→(xs.length+k)*s=cs.size):
  Good (upd ι H.length (some w.heap.size)) F (w.alloc (.cells cs e (0,0))) (H++ [.arr s xs sp false])∧Step ι F H w (upd ι H.length (some w.heap.size)) F (H++ [.arr s xs sp false]) (w.alloc (.cells cs e (0,0))):=by
 refine Ac6 hg _ cs e rfl ?_
 exact Ahw h0 (by simp [upd]) AaL (hr.mono (fun _ h=>h) (fun b hb=>Aay (hg.fin b hb))) hcs hone hm hsp
theorem Ak4 {id:Nat} {ι:Io} {w:World} {H:Heap} {xs:List T} {sp:Option Nat} {ro:Bool} {b cap:Nat} (ho:H[id]?=some (.arr s xs sp ro)) (hb:ι id=some b) (hlen:xs.length≤cap) (hc:cap*s=blk w b):
  OwnSl ι w H id 0 none none (.slice (some ⟨b,0,none⟩) xs.length cap):=by
 unfold OwnSl
 rw [ho]
 refine ⟨_,cap,rfl,hlen,by simp,?_⟩
 rw [hb]
 exact ⟨.inr (by simp),by simpa using hc⟩
theorem Agg (hc:CxTy P cx) {el:Nat} {i:TI} (hi:cx.ti.get el=some i) {z:V} (hz:zeroV cx depth el=some z) (hg:Good ι F w H) {R:T×Heap→Prop} {bb:Bool} (h:wpQ S (zT bb z H) R):
  ∃x H' F' inf zv,R (x,H')∧Good ι F' w H'∧Step ι F H w ι F' H' w∧P.info? el=some inf∧inf.zero=some zv∧inf.size=i.size∧inf.bytes=i.bytes∧zv.cells.size=i.size∧(∀(j:Nat) c,zv.cells[j]?=some c→c.oneCell'=true)∧
   ∀n (w':World),(∀b,F' b→w'.heap[b]?=w.heap[b]?)→Row F' w' i.size (zj n x) (((Array.range (n*i.size)).map fun k=>zv.cells[k%i.size]!).toList):=by
 obtain ⟨inf,d,h1,h2,h3,h4,h5,h6,zv,h7,h8⟩:=hc.ty el i hi
 obtain ⟨z1,z2,z3,z4,z5⟩:=h8 z hz
 obtain ⟨x,H',F',t1,t2,t3,t4,t5⟩:=zT_ok hg h (z1 ι F w H)
 have hx:=TR.cells t4 (t5 z3)
 refine ⟨x,H',F',inf,zv,t1,t2,t3,h1,h7,h3,h4,z5,z2,fun n w' hw'=> ?_⟩
 exact (AkQ (w:=w) n z5 z2 (fun _=>by rw [hx.1,z5]) (fun j t c ht hc=>hx.2 j t c ht hc)).mono (fun _ h=>h) hw'
end
section
variable {P:Program} {cx:Cx} {S:Task→(Res→Prop)→Prop} {o:Oper} {e:Env} {H:Heap} {a:Act} {w:World} {ι:Io} {F:Nat→Prop} {R:V×Heap→Prop} {Q:Exit→Act→World→Prop}
theorem Aem (hc:CxTy P cx) (hg:Good ι F w H) (hs:Sim ι F w H e a) (t:Nat) (l c:Operand) (ho:o.op= .makeSlice t l c) (h:wpQ S (opQ cx o e H) R):o.wp P a w (fun a' w'=>OpPost R o ι F H w a a' w'∧OldSame w w') Q:=by
 unfold opQ at h
 rw [ho] at h
 simp only at h
 split at h
 ·rename_i el he
  split at h
  ·rename_i z kl n kc m hz hl hcc
   have el1:=Aal hs l
   have ec1:=Aal hs c
   rw [hl] at el1
   rw [hcc] at ec1
   have el1:=el1.t_inv.int_inv
   have ec1:=ec1.t_inv.int_inv
   obtain ⟨e1,i,inf0,e2,e3,e4,e5,e6,e7,e8⟩:=Abo hc he
   obtain ⟨x,H1,F1,inf,zv,r1,g1,s1,q1,q2,q3,q4,q5,q6,q7⟩:=Agg hc e2 hz hg (Aaa _ _ _ h)
   clear h
   obtain ⟨⟨c0,c1,c2,c3⟩,h⟩:=r1
   rw [e8] at c2
   replace h:=Abz (Aaa _ _ _ h)
   replace h:=Aa5 (Aaa _ _ _ h)
   have hap:(appendMax:Nat)=140737488355328:=rfl
   have hbytes:(inf.bytes:Int)*m≤281474976710656:=by
    have:((m.toNat*i.bytes:Nat):Int)≤140737488355328:=by rw [hap] at c2;omega
    rw [Int.natCast_mul,Int.toNat_of_nonneg (by omega)] at this
    rw [q4,Int.mul_comm]
    omega
   have hrun:=run_make (P:=P) w t el inf zv e1 q1 q2 kl kc n m c0 c1 hbytes (by rw [hap] at c3;omega)
   have hrow:=q7 m.toNat w (fun _ _=>rfl)
   have hmade:madeCells zv.cells (m.toNat*inf.size)=(Array.range (m.toNat*i.size)).map fun k=>zv.cells[k%i.size]!:=by simp [madeCells,q3,q5]
   rw [hmade] at hrun
   obtain ⟨k1,k2⟩:=AiI (sp:=some 0) g1 e3 el hrow (rest:= []) (cs:=(Array.range (m.toNat*i.size)).map fun k=>zv.cells[k%i.size]!) (by simp) (by simp) ⟨m.toNat,by simp⟩ (by simp)
   rw [←e7] at k1 k2
   have hno:(H1++ [Ob.arr (sizeOf cx el) (zj m.toNat x) (some 0) false])[H1.length]?=some (.arr (sizeOf cx el) (zj m.toNat x) (some 0) false):=by simp
   have hι:upd ι H1.length (some w.heap.size) H1.length=some w.heap.size:=by simp [upd]
   have hbl:blk (w.alloc (.cells ((Array.range (m.toNat*i.size)).map fun k=>zv.cells[k%i.size]!) el)) w.heap.size=m.toNat*i.size:=by
    unfold blk
    rw [AaL]
    simp
   refine AaB (w':=_) (val:= .slice (some ⟨w.heap.size,0,none⟩) n.toNat m.toNat) (by simp [execOp,ho,el1,ec1,hrun];rfl) ?_
   rw [←e7] at hbl⊢
   split at h
   ·rename_i hso
    have:=AiU hso
    subst this
    rw [el1] at ec1
    simp at ec1
    obtain ⟨rfl,rfl⟩:=ec1
    refine ⟨⟨_,_,_,F1,_,h,rfl,k1,s1.trans k2,.all _ _ _ ?_⟩,.alloc w _⟩
    have:=Ak4 (cap:=n.toNat) hno hι (by simp) hbl.symm
    simpa using this
   ·refine ⟨⟨_,_,_,F1,_,h,rfl,k1,s1.trans k2,.sl _ _ _ _ _ ?_⟩,.alloc w _⟩
    unfold OwnSl
    rw [hno]
    refine ⟨_,m.toNat,rfl,by simp;omega,by simp;omega,?_⟩
    rw [hι]
    exact ⟨.inr (by simp),by simpa using hbl.symm⟩
  ·exact h.elim
 ·exact h.elim
end
end Go.Eva
namespace Go.Eva
open Go.RowKit
section
variable {P:Program} {w:World}
def Src (P:Program) (w:World) (inf:TypeInfo) (zv:Value) (tx:Nat) (x:Value) (m:Nat) (news:List Value):Prop:=
 ((∃e,P.underlying tx=some (.slice e))∧(∃a c,x= .slice a m c)∧Reads P w inf.size m x news)∨
 ((∃kn,P.underlying tx=some (.int kn))∧(∃k,x= .int k (m:Int))∧m*inf.bytes≤140737488355328∧m≤140737488355328∧news=(Builtin.zeroCells zv.cells m).toList)
theorem Afo (z:Array Value):Builtin.zeroCells z 0= #[]:=by simp [Builtin.zeroCells,show Array.range 0= #[] from rfl]
theorem Ae2 (t tx ty e:TypeId) (inf:TypeInfo) (zv:Value) (ht:P.underlying t=some (.slice e)) (hi:P.info? e=some inf) {x:Value} {news:List Value} (hsrc:Src P w inf zv tx x 0 news)
  (base:Option Addr) (n cap:Nat) (hn:n≤cap) (hnews:news= []):
  (Builtin.append_ #[t,tx] ty #[.slice base n cap,x]).run P w= .ok (.slice base n cap) w:=by
 subst hnews
 rcases hsrc with ⟨⟨e',hx⟩,⟨a,c,rfl⟩,hr⟩|⟨⟨kn,hx⟩,⟨k,rfl⟩,h1,h2,h3⟩
 ·have:=hr w rfl
  cases base<;>simp [Builtin.append_,run_underlying ht,run_underlying hx,Go.sizeOf,typeInfo,hi,Builtin.lenOf,hn,this,storeCells]
 ·have hw:IntKind.i64.wrap (0:Int)=0:=by rw [IntKind.wrap_i64];omega
  cases base<;>simp [Builtin.append_,run_underlying ht,run_underlying hx,Go.sizeOf,typeInfo,hi,asInt,asIntOf,hw,hn,storeCells]
theorem AjU (t tx ty e:TypeId) (inf:TypeInfo) (zv:Value) (ht:P.underlying t=some (.slice e)) (hi:P.info? e=some inf) (hz:inf.zero=some zv) (hsz:0<inf.size) {x:Value} {m:Nat} {news:List Value} (hsrc:Src P w inf zv tx x m news)
  (b off n cap:Nat) (hroom:n+m≤cap) {cur:Array Value} {e':TypeId} (hb:w.heap[b]?=some (.cells cur e' (0,0))) (hfit:off+n*inf.size+news.length≤cur.size) (h1: ∀v∈news,v.oneCell'=true):
  (Builtin.append_ #[t,tx] ty #[.slice (some ⟨b,off,none⟩) n cap,x]).run P w= .ok (.slice (some ⟨b,off,none⟩) (n+m) cap)
   (w.setRow b (cur.toList.take (off+n*inf.size)++news++cur.toList.drop (off+n*inf.size+news.length)).toArray):=by
 have hst:=run_storeCells_at P b (off+n*inf.size) e' news 0 cur w hb (by simpa using hfit) h1
 simp only [Nat.add_zero] at hst
 rcases hsrc with ⟨⟨e',hx⟩,⟨a,c,rfl⟩,hr⟩|⟨⟨kn,hx⟩,⟨k,rfl⟩,g1,g2,rfl⟩
 ·have:=hr w rfl
  simp [Builtin.append_,run_underlying ht,run_underlying hx,Go.sizeOf,typeInfo,hi,Builtin.lenOf,hroom,this,Addr.add_lit,hst]
 ·have hw:IntKind.i64.wrap (m:Int)=m:=by rw [IntKind.wrap_i64];omega
  have hneg: ¬((m:Int)<0):=by omega
  have h48i: ¬(281474976710656<(m:Int)*(inf.bytes:Int)):=by
   rw [←Int.natCast_mul]
   omega
  by_cases hm:m=0
  ·subst hm
   have hw0:IntKind.i64.wrap (0:Int)=0:=by rw [IntKind.wrap_i64];omega
   have hroom':n≤cap:=by omega
   simp [Afo] at hst⊢
   simp [Builtin.append_,run_underlying ht,run_underlying hx,Go.sizeOf,typeInfo,hi,asInt,asIntOf,hw0,hroom',Addr.add_lit,hst]
  ·have hns: ¬(m*inf.size=0):=Nat.mul_ne_zero hm (by omega)
   simp [Builtin.append_,run_underlying ht,run_underlying hx,Go.sizeOf,typeInfo,zeroValue,hi,hz,asInt,asIntOf,hw,hneg,h48i,hroom,hns,Addr.add_lit,hst]
theorem Ae1 (t tx ty e:TypeId) (inf:TypeInfo) (zv:Value) (ht:P.underlying t=some (.slice e)) (hi:P.info? e=some inf) (hz:inf.zero=some zv) (hsz:0<inf.size) {x:Value} {m:Nat} {news:List Value} (hsrc:Src P w inf zv tx x m news)
  (base:Option Addr) (n cap:Nat) {olds:List Value} (hold:Reads P w inf.size n (.slice base n cap) olds) (hcap:n≤cap) (hg:cap<n+m) (h1:(n+m)*inf.bytes≤140737488355328) (h2:n+m≤140737488355328):
  (Builtin.append_ #[t,tx] ty #[.slice base n cap,x]).run P w= .ok (.slice (some ⟨w.heap.size,0,none⟩) (n+m) (grownCap w (n+m) cap e))
   (w.drew.alloc (.cells (olds.toArray++news.toArray++Builtin.zeroCells zv.cells (grownCap w (n+m) cap e-(n+m))) e)):=by
 have hn: ¬(n+m≤cap):=by omega
 have h63': ¬(9223372036854775807<((n:Int)+(m:Int))):=by omega
 have h48': ¬(281474976710656<Builtin.nextslicecap (n+m) cap*inf.bytes):=by
  have:=growslice_fits (need:=n+m) (old:=cap) (bytes:=inf.bytes) hg (by omega)
  omega
 have ho:=hold w.drew rfl
 rcases hsrc with ⟨⟨e',hx⟩,⟨a,c,rfl⟩,hr⟩|⟨⟨kn,hx⟩,⟨k,rfl⟩,g1,g2,rfl⟩
 ·have:=hr w.drew rfl
  simp [Builtin.append_,run_underlying ht,run_underlying hx,Go.sizeOf,typeInfo,zeroValue,hi,hz,Builtin.lenOf,hn,h63',h48',Question.forced,ho,this,newRow,grownCap]
  congr 2
  apply Array.ext'
  simp [List.append_assoc]
 ·have hw:IntKind.i64.wrap (m:Int)=m:=by rw [IntKind.wrap_i64];omega
  have hneg: ¬((m:Int)<0):=by omega
  have h48i: ¬(281474976710656<(m:Int)*(inf.bytes:Int)):=by
   rw [←Int.natCast_mul]
   omega
  have hm:m≠0:=by omega
  have hns: ¬(m*inf.size=0):=Nat.mul_ne_zero hm (by omega)
  simp [Builtin.append_,run_underlying ht,run_underlying hx,Go.sizeOf,typeInfo,zeroValue,hi,hz,asInt,asIntOf,hw,hneg,h48i,hn,h63',h48',hns,Question.forced,ho,newRow,grownCap]
end
end Go.Eva
namespace Go.Eva
open Go.RowKit
section
variable {P:Program} {cx:Cx} {S:Task→(Res→Prop)→Prop} {w:World} {ι:Io} {F:Nat→Prop} {H:Heap} {s:Nat}
theorem Ahq (hg:Good ι F w H) (h0:0<s) {xs ys:List T} {olds news:List Value} (e:TypeId) (hx:Row F w s xs olds) (hy:Row F w s ys news) {g:Nat} (hge:xs.length+ys.length≤g) {zc:Array Value} (hz:zc.size=s) (hz1: ∀(j:Nat) c,zc[j]?=some c→c.oneCell'=true):
  ∃ι' w',w'=w.drew.alloc (.cells (olds.toArray++news.toArray++Builtin.zeroCells zc (g-(xs.length+ys.length))) e)∧Good ι' F w' (H++ [.arr s (xs++ys) none false])∧Step ι F H w ι' F (H++ [.arr s (xs++ys) none false]) w'∧
   VR ι' F w' (H++ [.arr s (xs++ys) none false]) (.all H.length none) (.slice (some ⟨w.heap.size,0,none⟩) (xs.length+ys.length) g):=by
 obtain ⟨d1,d2⟩:=Ags hg
 have hrow:Row F w.drew s (xs++ys) (olds++news):=Row.mono (w:=w) (w':=w.drew) (fun _ h=>h) (fun _ _=>rfl) (hx.append hy)
 have hsize:(olds.toArray++news.toArray++Builtin.zeroCells zc (g-(xs.length+ys.length))).size=g*s:=by
  simp [size_zeroCells,hx.len,hy.len,hz]
  rw [←Nat.add_mul,←Nat.add_mul]
  congr 1
  omega
 obtain ⟨k1,k2⟩:=AiI (sp:=none) d1 h0 e hrow (rest:=(Builtin.zeroCells zc (g-(xs.length+ys.length))).toList) (cs:=olds.toArray++news.toArray++Builtin.zeroCells zc (g-(xs.length+ys.length)))
  (by simp) (by
   intro v hv
   simp [Builtin.zeroCells] at hv
   obtain ⟨k,hk,rfl⟩:=hv
   have hpos:0<zc.size:=by rcases Nat.eq_zero_or_pos zc.size with h|h;rw [h] at hk;simp at hk;exact h
   have hlt:k%zc.size<zc.size:=Nat.mod_lt _ hpos
   simp only [hlt,getElem!_pos]
   exact hz1 (k%zc.size) _ (by simp [hlt])) ⟨g,hsize⟩ (by simp)
 refine ⟨_,_,rfl,k1,d2.trans k2,.all _ _ _ ?_⟩
 have:=Ak4 (ι:=upd ι H.length (some w.drew.heap.size)) (w:=w.drew.alloc (.cells (olds.toArray++news.toArray++Builtin.zeroCells zc (g-(xs.length+ys.length))) e)) (H:=H++ [Ob.arr s (xs++ys) none false]) (id:=H.length) (s:=s) (xs:=xs++ys) (sp:=none) (ro:=false) (b:=w.heap.size) (cap:=g)
  (by simp) (by simp [upd]) (by simp;omega) (by unfold blk;rw [show w.heap.size=w.drew.heap.size from rfl,AaL];simp only;rw [hsize])
 simpa using this
theorem AhB (t tx ty e:TypeId) (inf:TypeInfo) (zv:Value) (ht:P.underlying t=some (.slice e)) (hi:P.info? e=some inf) (hz:inf.zero=some zv) (hsz:0<inf.size) {x:Value} {m:Nat} {news:List Value} (hsrc:Src P w inf zv tx x m news) (hlen:news.length=m*inf.size) (h1: ∀v∈news,v.oneCell'=true)
  {b off n cap:Nat} {p:Option Addr} (hp:cap=0∨p=some ⟨b,off*inf.size,none⟩) (hroom:n+m≤cap) {cs:Array Value} {e':TypeId} (hb:w.heap[b]?=some (.cells cs e' (0,0))) (hfit:(off+n+m)*inf.size≤cs.size):
  (Builtin.append_ #[t,tx] ty #[.slice p n cap,x]).run P w= .ok (.slice p (n+m) cap) (w.setRow b (cs.toList.take ((off+n)*inf.size)++news++cs.toList.drop ((off+n+m)*inf.size)).toArray):=by
 by_cases h0:cap=0
 ·have hm:m=0:=by omega
  have hn:n=0:=by omega
  subst hm
  subst hn
  have hnil:news= []:=List.eq_nil_of_length_eq_zero (by simpa using hlen)
  subst hnil
  have hself:w.setRow b (cs.toList.take ((off+0)*inf.size)++ []++cs.toList.drop ((off+0+0)*inf.size)).toArray=w:=by
   have:=setRow_self w b cs e' (0,0) hb
   simpa using this
  rw [hself]
  exact Ae2 t tx ty e inf zv ht hi hsrc p 0 cap (by omega) rfl
 ·rcases hp with hp|rfl
  ·contradiction
  ·have:=AjU t tx ty e inf zv ht hi hz hsz hsrc b (off*inf.size) n cap hroom hb (by rw [hlen,←Nat.add_mul,←Nat.add_mul];exact hfit) h1
   rw [this]
   rw [hlen,←Nat.add_mul,←Nat.add_mul]
theorem Ahc {α:Type} {n bytes:Nat} {q:Eva.Q α} {R:α→Prop} (h:wpQ S (.want (room n bytes) q) R):n*bytes≤140737488355328∧n≤140737488355328∧wpQ S q R:=⟨h.1.1,h.1.2,h.2⟩
section
variable {t tx ty el:Nat} {i:TI} {inf:TypeInfo} {zv x:Value} {ys:List T} {news:List Value} {R:V×Heap→Prop}
 (hg:Good ι F w H) (ht:P.underlying t=some (.slice el)) (hi:P.info? el=some inf) (hz:inf.zero=some zv) (hsz:0<inf.size) (hzs:zv.cells.size=inf.size) (hz1: ∀(j:Nat) c,zv.cells[j]?=some c→c.oneCell'=true)
 (hsrc:Src P w inf zv tx x ys.length news) (hy:Row F w inf.size ys news)
include hg ht hi hz hsz hzs hz1 hsrc hy
theorem AgX {xs:List T} {olds:List Value} {p:Option Addr} {n cap:Nat} (hn:n=xs.length) (hx:Row F w inf.size xs olds) (hr:Reads P w inf.size n (.slice p n cap) olds) (hcap:n≤cap) (hgr:cap<n+ys.length)
  (h:wpQ S (anew inf.size (xs++ys) inf.bytes H) R):
  ∃r H' ι' val w',R (r,H')∧Good ι' F w' H'∧Step ι F H w ι' F H' w'∧VR ι' F w' H' r val∧OldSame w w'∧(Builtin.append_ #[t,tx] ty #[.slice p n cap,x]).run P w= .ok val w':=by
 subst hn
 obtain ⟨r1,r2,h⟩:=Ahc h
 replace h:=Aa5 (Aaa _ _ _ h)
 simp only [List.length_append] at r1 r2
 have hrun:=Ae1 t tx ty el inf zv ht hi hz hsz hsrc p xs.length cap hr hcap hgr r1 r2
 obtain ⟨ι',w',rfl,g1,g2,g3⟩:=Ahq (g:=grownCap w (xs.length+ys.length) cap el) hg hsz el hx hy (grownCap_ge _ _ _ _) hzs hz1
 exact ⟨_,_,ι',_,_,h,g1,g2,g3,.alloc w.drew _,hrun⟩
theorem AhO {id:Nat} {xs:List T} {sp:Option Nat} {p:Option Addr} {cap:Nat} (ho:H[id]?=some (.arr inf.size xs sp false)) (hcap:xs.length≤cap) (hcr:CapR ι w id 0 none inf.size p cap)
  (h:wpQ S (renew id inf.size (xs++ys) inf.bytes H) R):
  ∃r H' ι' val w',R (r,H')∧Good ι' F w' H'∧Step ι F H w ι' F H' w'∧VR ι' F w' H' r val∧(Builtin.append_ #[t,tx] ty #[.slice p xs.length cap,x]).run P w= .ok val w':=by
 obtain ⟨r1,r2,h⟩:=Ahc h
 obtain ⟨hid,h2⟩:=Abj (Aaa _ _ _ h)
 clear h
 replace h2:=Aa5 (Aaa _ _ _ h2)
 simp only [List.length_append,List.length_set] at r1 r2 h2
 have hnew:(H.set id .dead++ [Ob.arr inf.size (xs++ys) none false])[H.length]?=some (.arr inf.size (xs++ys) none false):=by
  rw [List.getElem?_append_right (by simp)];simp
 obtain ⟨_,hob⟩:=Acp hg ho
 unfold CapR at hcr
 rcases hob with ⟨b1,rfl,b3⟩|⟨b,cs,e',b1,b2,b3,b4,b5,⟨m,b6⟩,b7,b8⟩
 ·
  rw [b1] at hcr
  simp only at hcr
  subst hcr
  by_cases hys:ys= []
  ·subst hys
   have hnil:news= []:=List.eq_nil_of_length_eq_zero (by simpa using hy.len)
   have hrun:=Ae2 t tx ty el inf zv ht hi hsrc p 0 0 (Nat.le_refl _) hnil
   obtain ⟨k1,k2⟩:=Ae7 hg ho
   obtain ⟨k3,k4⟩:=AdV k1 inf.size hsz
   refine ⟨_,_,_,_,w,h2,k3,k2.trans k4,.all _ _ _ ?_,hrun⟩
   unfold OwnSl
   rw [hnew]
   refine ⟨p,0,rfl,Nat.le_refl _,Nat.le_refl _,?_⟩
   simp [upd]
  ·have hpos:0<ys.length:=List.length_pos_iff.2 hys
   have hrun:=Ae1 t tx ty el inf zv ht hi hz hsz hsrc p 0 0 (olds:= []) AaH (Nat.le_refl _) (by omega) (by simpa using r1) (by simpa using r2)
   obtain ⟨k1,k2⟩:=Ae7 hg ho
   obtain ⟨ι',w',rfl,g1,g2,g3⟩:=Ahq (g:=grownCap w (0+ys.length) 0 el) k1 hsz el Row.nil hy (by have:=grownCap_ge w (0+ys.length) 0 el;simp at this⊢;omega) hzs hz1
   simp only [List.length_set] at g3
   exact ⟨_,_,ι',_,_,h2,g1,k2.trans g2,g3,hrun⟩
 ·rw [b1] at hcr
  simp only [Nat.zero_mul,Nat.zero_add] at hcr
  obtain ⟨hp,hcb⟩:=hcr
  by_cases hroom:xs.length+ys.length≤cap
  ·have hfit:(0+xs.length+ys.length)*inf.size≤cs.size:=by
    rw [←b3,←hcb,Nat.zero_add]
    exact Nat.mul_le_mul_right _ hroom
   have hrun:=AhB t tx ty el inf zv ht hi hz hsz hsrc hy.len hy.one (off:=0) (n:=xs.length) (p:=p) (b:=b) (by simpa using hp) hroom b2 hfit
   simp only [Nat.zero_add] at hrun hfit
   generalize hcs:(cs.toList.take (xs.length*inf.size)++news++cs.toList.drop ((xs.length+ys.length)*inf.size)).toArray=cs' at hrun
   have hsz':cs'.size=cs.size:=by
    rw [←hcs]
    simp [hy.len]
    rw [Nat.add_mul] at hfit⊢
    omega
   have hh:=setRow_heap w b cs cs' _ _ b2
   have hbl:blk (w.setRow b cs') b=cs.size:=by unfold blk;rw [hh];exact hsz'
   obtain ⟨k1,k2⟩:=AeM (w':=w.setRow b cs') hg ho rfl rfl (o':= .arr inf.size (xs++ys) none false) rfl rfl rfl rfl (by simp) (fun b' hb'=>setRow_other w b b' cs' (fun e=>hb' (by rw [b1,e])))
    (fun _ hf=>Ahw (vs:=cs.toList.take (xs.length*inf.size)++news) (rest:=cs.toList.drop ((xs.length+ys.length)*inf.size)) hsz (by simp [upd,b1]) hh ((b8.append hy).mono (fun _ h=>h) hf) (by rw [←hcs])
     (fun v hv=>by
      obtain ⟨k,hk,rfl⟩:=List.getElem_of_mem (List.mem_of_mem_drop hv)
      exact b7 k _ (by simp at hk;simp [hk])) ⟨m,by rw [hsz',b6]⟩ (by simp))
   refine ⟨_,_,_,_,_,h2,k1,k2,.all _ _ _ ?_,hrun⟩
   unfold OwnSl
   rw [hnew]
   refine ⟨p,cap,by simp,by simpa using hroom,by simp,?_⟩
   have:upd ι H.length (ι id) H.length=some b:=by simp [upd,b1]
   rw [this]
   exact ⟨by simpa using hp,by simp only [Nat.zero_add];rw [hbl,←b3];exact hcb⟩
  ·have holds:Reads P w inf.size xs.length (.slice p xs.length cap) (cs.toList.take (xs.length*inf.size)):=by
    rcases Nat.eq_zero_or_pos cap with h0|h0
    ·have:xs.length=0:=by omega
     rw [this]
     simp only [Nat.zero_mul,List.take_zero]
     exact AaH
    ·rcases hp with hp|rfl
     ·omega
     ·refine Aea b8.len (fun j v hv=> ?_)
      rw [cell_of_row w b _ cs _ _ b2,Nat.zero_add]
      rw [List.getElem?_take] at hv
      split at hv
      ·simpa using hv
      ·contradiction
   have hrun:=Ae1 t tx ty el inf zv ht hi hz hsz hsrc p xs.length cap holds hcap (by omega) r1 r2
   obtain ⟨k1,k2⟩:=Ae7 hg ho
   obtain ⟨ι',w',rfl,g1,g2,g3⟩:=Ahq (g:=grownCap w (xs.length+ys.length) cap el) k1 hsz el b8 hy (grownCap_ge _ _ _ _) hzs hz1
   simp only [List.length_set] at g3
   exact ⟨_,_,ι',_,_,h2,g1,k2.trans g2,g3,hrun⟩
end
end
end Go.Eva
namespace Go.Eva
open Go.RowKit
theorem AhU {H:Heap} {id:Nat} {o:Ob} (h:H[id]?=some o):H.set id o=H:=by
 apply List.ext_getElem?
 intro i
 by_cases e:i=id
 ·subst e;rw [h];simp [(List.getElem?_eq_some_iff.1 h).1]
 ·rw [List.getElem?_set_ne (Ne.symm e)]
section
variable {P:Program} {cx:Cx} {S:Task→(Res→Prop)→Prop} {w:World} {ι:Io} {F:Nat→Prop} {H:Heap} {s:Nat}
theorem Ah1 (hg:Good ι F w H) {id b off m:Nat} {xs ys:List T} {news:List Value} {sp:Option Nat} {cs:Array Value} {e:TypeId} (ho:H[id]?=some (.arr s xs sp false)) (hb:ι id=some b) (hh:w.heap[b]?=some (.cells cs e (0,0)))
  (hy:Row F w s ys news) (hm:ys.length=m) (hfit:off+m≤xs.length):
  ∃cs':Array Value,cs'=(cs.toList.take (off*s)++news++cs.toList.drop ((off+m)*s)).toArray∧Good ι F (w.setRow b cs') (H.set id (.arr s (xs.take off++ys++xs.drop (off+m)) sp false))∧
   Step ι F H w ι F (H.set id (.arr s (xs.take off++ys++xs.drop (off+m)) sp false)) (w.setRow b cs'):=by
 refine ⟨_,rfl,?_⟩
 subst hm
 obtain ⟨h0,hob⟩:=Acp hg ho
 rcases hob with ⟨b1,_⟩|⟨b',cs',e',b1,b2,b3,b4,b5,⟨k,b6⟩,b7,b8⟩
 ·rw [hb] at b1;contradiction
 rw [hb] at b1
 obtain rfl:=Option.some.inj b1
 rw [hh] at b2
 simp at b2
 obtain ⟨rfl,rfl⟩:=b2
 have hfit':(off+ys.length)*s≤xs.length*s:=Nat.mul_le_mul_right s hfit
 have hlen:(xs.take off++ys++xs.drop (off+ys.length)).length=xs.length:=by simp;omega
 have hrow:=((b8.take off).append hy).append (b8.drop (off+ys.length))
 have hoff:off*s≤xs.length*s:=Nat.mul_le_mul_right s (by omega)
 have hsz:(cs.toList.take (off*s)++news++cs.toList.drop ((off+ys.length)*s)).toArray.size=cs.size:=by
  simp [hy.len]
  rw [Nat.add_mul] at hfit'⊢
  omega
 refine AdQ hg ho rfl hb hh (.inr ⟨rfl,fun b' hb'=> ?_,_,sp,false,rfl,hlen⟩) (fun _=>rfl) (fun hl hf=> ?_)
 ·rw [hb] at hb'
  obtain rfl:=Option.some.inj hb'
  unfold blk
  rw [setRow_heap w b cs _ _ _ hh,hh]
  exact hsz
 ·refine Ahw (rest:=cs.toList.drop (xs.length*s)) h0 hb (setRow_heap w b cs _ _ _ hh) (hrow.mono (fun _ h=>h) hf) ?_ ?_ ⟨k,by rw [hsz];exact b6⟩ (fun k hk=>by rw [hsz,hlen];exact b5 k hk)
  ·simp only [List.take_take,Nat.min_eq_left hoff,List.append_assoc]
   congr 2
   have:=List.take_append_drop (xs.length*s-(off+ys.length)*s) (cs.toList.drop ((off+ys.length)*s))
   rw [List.drop_drop,show (off+ys.length)*s+(xs.length*s-(off+ys.length)*s)=xs.length*s by omega] at this
   rw [List.drop_take]
   exact this.symm
  ·intro v hv
   obtain ⟨k,hk,rfl⟩:=List.getElem_of_mem (List.mem_of_mem_drop hv)
   exact b7 k _ (by simp at hk;simp [hk])
theorem Row.full {xs:List T} {vs:List Value} {u:Value} (hr:Row F w s xs vs) (h: ∀n,n≤xs.length→Reads P w s n u (vs.take (n*s))):Reads P w s xs.length u vs:=by
 have:=h xs.length (Nat.le_refl _)
 rw [List.take_of_length_le (Nat.le_of_eq hr.len)] at this
 exact this
theorem Ald {id off n cap:Nat} {lim:Option Nat} {xs:List T} {sp:Option Nat} {ro:Bool} {p:Option Addr} (ho:H[id]?=some (.arr s xs sp ro)) (hc:CapR ι w id off lim s p cap) (h1:n≤cap) (h2:off+n≤xs.length):OwnSl ι w H id off (some n) lim (.slice p n cap):=by
 unfold OwnSl
 rw [ho]
 exact ⟨p,cap,rfl,h1,h2,hc⟩
theorem Agi (hg:Good ι F w H) {v:V} {u:Value} {xs:List T} (h:elems s v H=some xs) (hv:VR ι F w H v u): ∃p c vs,u= .slice p xs.length c∧Row F w s xs vs∧ ∀n,n≤xs.length→Reads P w s n u (vs.take (n*s)):=by
 unfold elems at h
 split at h
 ·rename_i s' xs'
  split at h
  ·rename_i hb
   obtain rfl:=Nat.eq_of_beq_eq_true hb
   simp at h;subst h
   have ht:=hv.t_inv
   have hsl: ∃p n c,u= .slice p n c:=by cases ht<;>exact ⟨_,_,_,rfl⟩
   obtain ⟨p,n,c,rfl⟩:=hsl
   obtain ⟨rfl,vs,h1,h2⟩:=AdU (P:=P) ht
   exact ⟨p,c,vs,rfl,h1,h2⟩
  ·contradiction
 ·rename_i s' xs'
  split at h
  ·rename_i hb
   obtain rfl:=Nat.eq_of_beq_eq_true hb
   simp at h;subst h
   cases hv with
   |fit _ _ p ht=>
   obtain ⟨_,vs,h1,h2⟩:=AdU (P:=P) ht
   exact ⟨p,_,vs,rfl,h1,h2⟩
  ·contradiction
 ·rename_i id lim
  rw [Aaj] at h
  split at h
  ·rename_i s' xs' sp ro ho
   split at h
   ·rename_i hb
    obtain rfl:=Nat.eq_of_beq_eq_true hb
    simp at h;subst h
    cases hv with
    |all _ _ _ hv=>
    obtain ⟨p,cap,rfl,q1,q2,q3⟩:=Adg ho hv
    simp only [Option.getD_none] at q1⊢
    refine ⟨p,cap,?_⟩
    obtain ⟨_,hob⟩:=Acp hg ho
    unfold CapR at q3
    rcases hob with ⟨b1,rfl,b3⟩|⟨b,cs,e',b1,b2,b3,b4,b5,b6,b7,b8⟩
    ·exact ⟨[],rfl,.nil,AdN⟩
    ·rw [b1] at q3
     obtain ⟨hp,_⟩:=q3
     refine ⟨_,rfl,b8,fun n hn=> ?_⟩
     rcases Nat.eq_zero_or_pos cap with h0|h0
     ·have:n=0:=by omega
      rw [this]
      simp only [Nat.zero_mul,List.take_zero]
      exact AaH
     ·rcases hp with hp|rfl
      ·omega
      ·refine AdS (by rw [b8.len];exact Nat.mul_le_mul_right _ hn) (fun j v hv=> ?_)
       rw [cell_of_row w b _ cs _ _ b2,Nat.zero_mul,Nat.zero_add]
       rw [List.getElem?_take] at hv
       split at hv
       ·simpa using hv
       ·contradiction
   ·contradiction
  ·contradiction
 ·rename_i id off len lim
  rw [Aaj] at h
  split at h
  ·rename_i s' xs' sp ro ho
   split at h
   ·rename_i hb
    obtain rfl:=Nat.eq_of_beq_eq_true hb
    simp at h;subst h
    cases hv with
    |sl _ _ _ _ _ hv=>
    obtain ⟨p,cap,rfl,q1,q2,q3⟩:=Adg ho hv
    simp only [Option.getD_some] at q1 q2⊢
    have hlen:((xs'.drop off).take len).length=len:=by simp;omega
    rw [hlen]
    refine ⟨p,cap,?_⟩
    obtain ⟨_,hob⟩:=Acp hg ho
    unfold CapR at q3
    rcases hob with ⟨b1,rfl,b3⟩|⟨b,cs,e',b1,b2,b3,b4,b5,b6,b7,b8⟩
    ·have:len=0:=by simp at q2;omega
     subst this
     exact ⟨[],rfl,by simpa using Row.nil,AdN⟩
    ·rw [b1] at q3
     obtain ⟨hp,_⟩:=q3
     have hrow:=(b8.drop off).take len
     refine ⟨_,rfl,hrow,fun n hn=> ?_⟩
     rcases Nat.eq_zero_or_pos cap with h0|h0
     ·have:n=0:=by omega
      subst this
      simp only [Nat.zero_mul,List.take_zero]
      exact AaH
     ·rcases hp with hp|rfl
      ·omega
      ·refine AdS (by rw [hrow.len,hlen];exact Nat.mul_le_mul_right _ hn) (fun j v hv=> ?_)
       rw [cell_of_row w b _ cs _ _ b2]
       rw [List.getElem?_take] at hv
       split at hv
       ·rw [List.getElem?_drop,List.getElem?_take] at hv
        split at hv
        ·simpa using hv
        ·contradiction
       ·contradiction
   ·contradiction
  ·contradiction
 ·contradiction
section
variable {t tx ty el:Nat} {i:TI} {inf:TypeInfo} {zv x:Value} {ys:List T} {news:List Value} {R:V×Heap→Prop}
 (hg:Good ι F w H) (ht:P.underlying t=some (.slice el)) (hi:P.info? el=some inf) (hz:inf.zero=some zv) (hsz:0<inf.size) (hzs:zv.cells.size=inf.size) (hz1: ∀(j:Nat) c,zv.cells[j]?=some c→c.oneCell'=true)
 (hsrc:Src P w inf zv tx x ys.length news) (hy:Row F w inf.size ys news)
include hg ht hi hz hsz hsrc hy
theorem Af5 {id off len:Nat} {xs:List T} {sp lim:Option Nat} {ro:Bool} {p:Option Addr} {cap:Nat} (ho:H[id]?=some (.arr inf.size xs sp ro)) (hol:off+len≤xs.length) (hroom:len+ys.length≤cap) (hcr:CapR ι w id off lim inf.size p cap)
  (hfit:ι id≠none→off+len+ys.length≤xs.length) (h:wpQ S (inPlace id inf.size off len xs ys sp lim ro H) R):
  ∃r H' ι' val w',R (r,H')∧Good ι' F w' H'∧Step ι F H w ι' F H' w'∧VR ι' F w' H' r val∧(Builtin.append_ #[t,tx] ty #[.slice p len cap,x]).run P w= .ok val w':=by
 unfold inPlace at h
 split at h
 ·exact h.elim
 obtain ⟨hid,h⟩:=Abj (Aaa _ _ _ h)
 obtain ⟨_,hob⟩:=Acp hg ho
 unfold CapR at hcr
 rcases hob with ⟨b1,rfl,b3⟩|⟨b,cs,e',b1,b2,b3,b4,b5,b6,b7,b8⟩
 ·rw [b1] at hcr
  simp only at hcr
  subst hcr
  have h1:len=0:=by omega
  have h2:ys= []:=List.eq_nil_of_length_eq_zero (by omega)
  subst h1
  subst h2
  have hnil:news= []:=List.eq_nil_of_length_eq_zero (by simpa using hy.len)
  have hrun:=Ae2 t tx ty el inf zv ht hi hsrc p 0 0 (Nat.le_refl _) hnil
  rw [show ([]:List T).take (off+0)++ []++([]:List T).drop (off+0+([]:List T).length)= [] by simp,AhU ho] at h
  refine ⟨_,_,ι,_,w,h,hg,.refl ι F H w,.sl _ _ _ _ _ ?_,hrun⟩
  unfold OwnSl
  rw [ho]
  refine ⟨p,0,rfl,Nat.le_refl _,?_,by rw [b1]⟩
  simpa using hol
 ·have hcr':CapR ι w id off lim inf.size p cap:=by unfold CapR;exact hcr
  rw [b1] at hcr
  obtain ⟨hp,hcb⟩:=hcr
  have hf:=hfit (by rw [b1];simp)
  have hfit':(off+len+ys.length)*inf.size≤cs.size:=Nat.le_trans (Nat.mul_le_mul_right _ hf) b4
  have hrun:=AhB t tx ty el inf zv ht hi hz hsz hsrc hy.len hy.one (p:=p) hp hroom b2 hfit'
  obtain ⟨cs',e1,k1,k2⟩:=Ah1 hg ho b1 b2 hy rfl hf
  rw [←e1] at hrun
  refine ⟨_,_,ι,_,_,h,k1,k2,.sl _ _ _ _ _ ?_,hrun⟩
  refine Ald (by simp [hid];exact ⟨rfl,rfl,rfl,rfl⟩) ?_ hroom (by simp;omega)
  have hbl:blk (w.setRow b cs') b=blk w b:=by
   unfold blk
   rw [setRow_heap w b cs _ _ _ b2,b2]
   simp only
   rw [e1]
   have:=hy.len
   simp only [Nat.add_mul] at hfit'
   simp [Nat.add_mul]
   omega
  unfold CapR
  rw [b1]
  refine ⟨hp,?_⟩
  rw [hbl]
  exact hcb
end
end
end Go.Eva
namespace Go.Eva
open Go.RowKit
section
variable {P:Program} {cx:Cx} {S:Task→(Res→Prop)→Prop} {w:World} {ι:Io} {F:Nat→Prop} {H:Heap} {s:Nat}
variable {t tx ty el:Nat} {i:TI} {inf:TypeInfo} {zv x:Value} {ys:List T} {news:List Value} {R:V×Heap→Prop}
 (hg:Good ι F w H) (ht:P.underlying t=some (.slice el)) (hi:P.info? el=some inf) (hz:inf.zero=some zv) (hsz:0<inf.size) (hzs:zv.cells.size=inf.size) (hz1: ∀(j:Nat) c,zv.cells[j]?=some c→c.oneCell'=true)
 (hsrc:Src P w inf zv tx x ys.length news) (hy:Row F w inf.size ys news)
include hg ht hi hz hsz hzs hz1 hsrc hy
theorem AfE {v:V} {u:Value} (hv:VR ι F w H v u) (h:wpQ S (appendV inf.size inf.bytes v ys H) R):
  ∃r H' ι' val w',R (r,H')∧Good ι' F w' H'∧Step ι F H w ι' F H' w'∧VR ι' F w' H' r val∧((∃s xs,v= .fit s xs)→OldSame w w')∧(Builtin.append_ #[t,tx] ty #[u,x]).run P w= .ok val w':=by
 have weak: ∀ {u':Value},(∀s xs,v≠ .fit s xs)→(∃r H' ι' val w',R (r,H')∧Good ι' F w' H'∧Step ι F H w ι' F H' w'∧VR ι' F w' H' r val∧(Builtin.append_ #[t,tx] ty #[u',x]).run P w= .ok val w')→
   ∃r H' ι' val w',R (r,H')∧Good ι' F w' H'∧Step ι F H w ι' F H' w'∧VR ι' F w' H' r val∧((∃s xs,v= .fit s xs)→OldSame w w')∧(Builtin.append_ #[t,tx] ty #[u',x]).run P w= .ok val w':=by
  rintro u' hn ⟨r,H',ι',val,w',k1,k2,k3,k4,k5⟩
  exact ⟨r,H',ι',val,w',k1,k2,k3,k4,fun ⟨s,xs,e⟩=>absurd e (hn s xs),k5⟩
 have strong: ∀ {u':Value},(∃r H' ι' val w',R (r,H')∧Good ι' F w' H'∧Step ι F H w ι' F H' w'∧VR ι' F w' H' r val∧OldSame w w'∧(Builtin.append_ #[t,tx] ty #[u',x]).run P w= .ok val w')→
   ∃r H' ι' val w',R (r,H')∧Good ι' F w' H'∧Step ι F H w ι' F H' w'∧VR ι' F w' H' r val∧((∃s xs,v= .fit s xs)→OldSame w w')∧(Builtin.append_ #[t,tx] ty #[u',x]).run P w= .ok val w':=by
  rintro u' ⟨r,H',ι',val,w',k1,k2,k3,k4,k5,k6⟩
  exact ⟨r,H',ι',val,w',k1,k2,k3,k4,fun _=>k5,k6⟩
 unfold appendV at h
 split at h
 ·rename_i s'
  split at h
  ·rename_i hb
   obtain rfl:=Nat.eq_of_beq_eq_true hb
   cases hv with
   |fit _ _ p hv=>
   simp only [List.length_nil]
   by_cases hys:ys= []
   ·subst hys
    obtain ⟨_,_,h⟩:=Ahc h
    replace h:=Aa5 (Aaa _ _ _ h)
    have hnil:news= []:=List.eq_nil_of_length_eq_zero (by simpa using hy.len)
    have hrun:=Ae2 t tx ty el inf zv ht hi hsrc p 0 0 (Nat.le_refl _) hnil
    obtain ⟨k3,k4⟩:=AdV hg inf.size hsz
    refine ⟨_,_,_,_,w,h,k3,k4,.all _ _ _ ?_,fun _=> .refl w,hrun⟩
    unfold OwnSl
    simp [upd]
   ·have hpos:0<ys.length:=List.length_pos_iff.2 hys
    exact strong (AgX hg ht hi hz hsz hzs hz1 hsrc hy (xs:= []) (olds:= []) rfl .nil AaH (Nat.le_refl _) (by omega) h)
  ·exact h.elim
 ·rename_i s' xs _
  split at h
  ·rename_i hb
   obtain rfl:=Nat.eq_of_beq_eq_true hb
   cases hv with
   |fit _ _ p hv=>
   obtain ⟨hne,h⟩:=h
   have hpos:0<ys.length:=List.length_pos_iff.2 hne
   obtain ⟨_,vs,h1,h2⟩:=AdU (P:=P) hv
   exact strong (AgX hg ht hi hz hsz hzs hz1 hsrc hy rfl h1 (h1.full h2) (Nat.le_refl _) (by omega) h)
  ·exact h.elim
 ·rename_i id
  rw [Aaj] at h
  split at h
  ·rename_i s' xs sp ho
   split at h
   ·rename_i hb
    obtain rfl:=Nat.eq_of_beq_eq_true hb
    cases hv with
    |all _ _ _ hv=>
    obtain ⟨p,cap,rfl,q1,q2,q3⟩:=Adg ho hv
    exact weak (by simp) (AhO hg ht hi hz hsz hzs hz1 hsrc hy ho q1 q3 h)
   ·exact h.elim
  ·exact h.elim
 ·rename_i id off len lim
  rw [Aaj] at h
  split at h
  ·rename_i s' xs sp ro ho
   split at h
   ·exact h.elim
   ·rename_i hb
    obtain rfl:=Nat.eq_of_beq_eq_true hb
    have hvv:=hv
    cases hv with
    |sl _ _ _ _ _ hv=>
    obtain ⟨p,cap,rfl,q1,q2,q3⟩:=Adg ho hv
    simp only [Option.getD_some] at q1 q2 hvv⊢
    have hlen:((xs.drop off).take len).length=len:=by simp;omega
    obtain ⟨h0,hob⟩:=Acp hg ho
    have anew':cap<len+ys.length→wpQ S (anew inf.size ((xs.drop off).take len++ys) inf.bytes H) R→
      ∃r H' ι' val w',R (r,H')∧Good ι' F w' H'∧Step ι F H w ι' F H' w'∧VR ι' F w' H' r val∧((∃s xs,V.sl id off len lim= .fit s xs)→OldSame w w')∧(Builtin.append_ #[t,tx] ty #[.slice p len cap,x]).run P w= .ok val w':=by
     intro hgr h
     have he:elems inf.size (.sl id off len lim) H=some ((xs.drop off).take len):=by
      unfold elems
      simp [Aaj,ho]
     obtain ⟨p',c',vs,e1,e2,e3⟩:=Agi (P:=P) hg he hvv
     have e3:=e2.full e3
     rw [hlen] at e1 e3
     simp at e1
     obtain ⟨rfl,rfl⟩:=e1
     exact strong (AgX hg ht hi hz hsz hzs hz1 hsrc hy hlen.symm e2 e3 q1 hgr h)
    obtain ⟨rm,hq,hrm⟩:=Ak1 h
    clear h
    have h:=hq
    clear hq
    split at h
    ·rename_i tt sp'
     simp only [wpQ] at h
     have q3':=q3
     unfold CapR at q3'
     split at h
     ·rename_i hd
      obtain ⟨htl,h⟩:=h
      simp only [decide_eq_true_eq] at hd
      refine weak (by simp) (Af5 hg ht hi hz hsz hsrc hy ho q2 ?_ q3 (fun _=>by omega) h)
      rcases hob with ⟨b1,rfl,b3⟩|⟨b,cs,e',b1,b2,b3,b4,b5,b6,b7,b8⟩
      ·simp at htl
       omega
      ·rw [b1] at q3'
       simp only at q3'
       omega
     ·rename_i hd
      simp only [decide_eq_false_iff_not] at hd
      refine anew' ?_ h
      rcases hob with ⟨b1,rfl,b3⟩|⟨b,cs,e',b1,b2,b3,b4,b5,b6,b7,b8⟩
      ·rw [b1] at q3'
       simp only at q3'
       simp at q2
       omega
      ·rw [b1] at q3'
       simp only at q3'
       omega
    ·have hrm:sp=some 0:=hrm
     subst hrm
     simp only [wpQ] at h
     have q3':=q3
     unfold CapR at q3'
     have hcap:off+cap=xs.length:=by
      rcases hob with ⟨b1,rfl,b3⟩|⟨b,cs,ty,b1,b2,b3,b4,b5,b6,b7,b8⟩
      ·rw [b1] at q3'
       simp only at q3'
       simp at q2
       simp [q3',q2.1]
      ·rw [b1] at q3'
       simp only at q3'
       have:=b5 _ rfl
       rw [b3,←this] at q3'
       exact Nat.eq_of_mul_eq_mul_right h0 q3'.2
     split at h
     ·rename_i hd
      simp only [decide_eq_true_eq] at hd
      exact weak (by simp) (Af5 hg ht hi hz hsz hsrc hy ho q2 (by omega) q3 (fun _=>hd) h)
     ·rename_i hd
      simp only [decide_eq_false_iff_not] at hd
      exact anew' (by omega) h
    ·split at h
     ·exact h.elim
     ·obtain ⟨⟨rfl,rfl⟩,h⟩:=h
      exact weak (by simp) (AhO hg ht hi hz hsz hzs hz1 hsrc hy ho q1 q3 h)
  ·exact h.elim
 ·exact h.elim
end
section
variable {P:Program} {cx:Cx} {S:Task→(Res→Prop)→Prop} {o:Oper} {e:Env} {H:Heap} {a:Act} {w:World} {ι:Io} {F:Nat→Prop} {R:V×Heap→Prop}
def BPost (R:V×Heap→Prop) (ι:Io) (F:Nat→Prop) (H:Heap) (w:World) (val:Value) (w':World):Prop:=
 ∃r H' ι' F',R (r,H')∧Good ι' F' w' H'∧Step ι F H w ι' F' H' w'∧VR ι' F' w' H' r val
theorem b_len (hc:CxTy P cx) (hg:Good ι F w H) {v:V} {u:Value} (hv:VR ι F w H v u) {t ty:Nat} (h:wpQ S (builtinV cx .len [t] [v] H) R): ∃val,(∀w,(Builtin.len_ #[t] ty #[u]).run P w= .ok val w)∧BPost R ι F H w val w:=by
 unfold builtinV at h
 simp only at h
 split at h
 ·rename_i n hlt hn
  refine ⟨.int .i64 n,fun w=> ?_,_,_,_,_,h,hg,.refl ι F H w,.t _ _ (.int _ _)⟩
  unfold lenTy at hlt
  split at hlt
  ·split at hlt
   ·rename_i hget
    obtain ⟨inf,d,h1,h2,h3,h4,h5,_⟩:=hc.ty _ _ hget
    simp only [TyR] at h5
    subst h5
    have:=hv.t_inv.str_inv
    subst this
    simp [lenV] at hn
    subst hn
    simp [Builtin.len_,run_underlying h2,goInt]
   ·contradiction
  ·rename_i hns
   obtain ⟨el,he⟩:=Option.isSome_iff_exists.1 hlt
   obtain ⟨e1,_⟩:=Abo hc he
   rcases AkL hn hv with ⟨p,c,rfl⟩|⟨st,rfl,_,_⟩
   ·simp [Builtin.len_,run_underlying e1,goInt]
   ·exact absurd rfl (hns st)
 ·exact h.elim
end
end Go.Eva