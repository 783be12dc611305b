/- A reading of the program, proved sound against the model, and what its functions answer by it: part 0. -/
import Derived.Calls
import Derived.Below
import Derived.ArgAppend
import Derived.Laws.MakeOwn
import Derived.Laws.CopyRow
import Derived.Laws.Rows
import Derived.Laws.Entries
import Derived.Laws.IdiomCopy
import Derived.Laws.StructEq
set_option linter.unusedSimpArgs false
set_option linter.unusedVariables false
open List renaming getElem?_eq_some_iff → zh, replicate → zn, getElem?_eq_getElem → zt, getElem?_append_left → qq, getElem?_set_self → qw, getElem?_set_ne → qy, getElem?_append_right → qg, mem_cons → qf, drop_zero → qr, append_assoc → ql, map_cons → qo, mem_cons_of_mem → qu, range → jq, nil_append → jj, mem_flatMap → jv, take_append_drop → jd, mem_append → jp, getElem?_take → ji, getElem?_drop → xh, getElem_of_mem → xn, cons_append → xr, ext_getElem? → vq, take_of_length_le → vz, nodup_cons → vw, length_set → vm, getElem?_eq_none → vo, getElem?_range → wd, getElem?_cons_succ → yv, getElem?_toArray → ym, drop_drop → yc, set_set → y6, drop_eq_getElem_cons → uj, getElem?_take_of_lt → uh, nodup_append → ui, flatMap_append → uo, set_append_right → ka, getElem?_append → p9
open Bool renaming and_eq_true → zf, false_eq_true → xq, not_eq_true' → wv
open Nat renaming eq_of_beq_eq_true → zp, mul_le_mul_right → qj, beq → qd, le_refl → qn, zero_add → jk, add_mul → jc, lt_of_lt_of_le → xt, one_mul → xu, zero_mul → wq, add_assoc → wr, le_trans → yp, ble → ph, ne_of_beq_eq_false → pd
open Option.some renaming inj → ze, injEq → j0
open Array renaming getElem?_eq_some_iff → zu, getElem?_eq_getElem → qp, getElem?_extract → py
open BitVec renaming ofInt → qv
open Go.Result renaming andThen_ok → j4
open Go.Sem renaming run_bind → xy, run_pure → ve
open Prod renaming fst → xl
open Ne renaming symm → vf
open Go.Value renaming cells → v6, oneCell' → ur
open Option renaming getD_none → wc
open Go.Op renaming equalIn → gd, maxDepth → bv, equal → cl, intCmp → cu, intBits → mj, intArith → ml, eqFields → ny
open Classical renaming propDecidable → dl
open Go.Instr renaming loadAt → c9, sureAddr → ma
open Prod.mk renaming injEq → m6
namespace Go.Eva
inductive T where
 |any
 |int (k:IntKind) (n:Int)
 |bool (b:Bool)
 |str (s:ByteArray)
 |agg (vs:List T)
 |sl (sz:Nat) (xs:List T)
 |ip (sz:Nat) (x:T) (off:Nat)
 |clo (f:Nat) (cs:List T)
 |nilp|nilf|nilm
 |nul
 |pin (v:Value)
 |mp (ks vs:List T)
 |box (sz:Nat) (x:T)
 |row (sz:Nat) (xs:List T)
 |vrow (sz:Nat) (xs:List T)
 |dict (ks xs:List T)
inductive V where
 |t (x:T)
 |nil
 |fit (sz:Nat) (xs:List T)
 |all (id:Nat) (lim:Option Nat)
 |sl (id off len:Nat) (lim:Option Nat)
 |ptr (id i j:Nat)
 |clo (f:Nat) (cs:List V)
 |agg (vs:List V)
 |tup (vs:List V)
 |map (id:Nat)
 |also (v:Value) (x:T)
inductive Ob where
 |arr (sz:Nat) (xs:List T) (spare:Option Nat) (ro:Bool)
 |one (sz:Nat) (v:V) (ro:Bool)
 |vec (sz:Nat) (xs:List T) (ps:List (Nat×V))
 |map (ks xs:List T) (ps:List (Nat×V))
 |iter (ks vs:List T) (seen:List Nat)
 |rng (ks xs:List T) (ps:List (Nat×V)) (it:Nat) (seen:List Nat)
 |hand (m:Nat)
 |pool (bs:List Nat) (xs:List T)
 |dead
abbrev Heap:=List Ob
inductive Task where
 |call (f:Nat) (args:List V) (H:Heap)
 |loop (f:Nat) (p:List Nat) (keep:Nat) (vs:List V) (H:Heap)
inductive Ex where
 |normal|exit (id:Nat)|ret
structure Res where
 e:Ex
 vs:List V
 H:Heap
inductive Q (α:Type):Type where
 |fail
 |ret (a:α)
 |ask (t:Task) (k:Res→Q α)
 |test (b:Bool) (k:Bool→Q α)
 |num (kd:IntKind) (n:Int) (k:Int→Q α)
 |get (xs:List T) (i:Nat) (k:T→Q α)
 |norm (x:T) (k:T→Q α)
 |nat (n:Nat) (k:Nat→Q α)
 |cap (lo:Nat) (k:Nat→Q α)
 |new (no:List Nat) (k:Nat→Q α)
 |want (p:Prop) [d:Decidable p] (q:Q α)
 |both (p q:Q α)
 |find (kd:IntKind) (n:Int) (ks:List T) (k:Option Nat→Q α)
 |any (k:Value→Q α)
def findIx (kd:IntKind) (n:Int):List T→Option Nat
 | []=>none
 |x::r=>match x with
  | .int kd' m=>match decide (kd=kd'),n==m with
   |true,true=>some 0
   |_,_=>match findIx kd n r with|some i=>some (i+1)|none=>none
  |_=>match findIx kd n r with|some i=>some (i+1)|none=>none
def keysB (kd:IntKind):List T→Bool
 | []=>true
 | .int kd' _::r=>decide (kd=kd')&&keysB kd r
 |_::_=>false
def Q.bind {α β:Type}:Q α→(α→Q β)→Q β
 | .fail,_=> .fail
 | .ret a,f=>f a
 | .ask t k,f=> .ask t fun x=>(k x).bind f
 | .test b k,f=> .test b fun x=>(k x).bind f
 | .num kd n k,f=> .num kd n fun x=>(k x).bind f
 | .get xs i k,f=> .get xs i fun x=>(k x).bind f
 | .norm x k,f=> .norm x fun y=>(k y).bind f
 | .nat n k,f=> .nat n fun y=>(k y).bind f
 | .cap lo k,f=> .cap lo fun y=>(k y).bind f
 | .new no k,f=> .new no fun y=>(k y).bind f
 | @Q.want _ p d q,f=> @Q.want _ p d (q.bind f)
 | .both p q,f=> .both (p.bind f) (q.bind f)
 | .find kd n ks k,f=> .find kd n ks fun x=>(k x).bind f
 | .any k,f=> .any fun x=>(k x).bind f
def wpQ (S:Task→(Res→Prop)→Prop) {α:Type}:Q α→(α→Prop)→Prop
 | .fail,_=>False
 | .ret a,R=>R a
 | .ask t k,R=> ∃R',S t R'∧(∃x,R' x)∧ ∀x,R' x→wpQ S (k x) R
 | .test b k,R=>wpQ S (k b) R
 | .num kd n k,R=>wpQ S (k (kd.wrap n)) R
 | .get xs i k,R=> ∃x,xs[i]?=some x∧x≠ .any∧wpQ S (k x) R
 | .norm x k,R=>wpQ S (k x) R
 | .nat n k,R=>wpQ S (k n) R
 | .cap lo k,R=> ∀c,lo≤c→wpQ S (k c) R
 | .new no k,R=> ∀c,c∉no→wpQ S (k c) R
 | @Q.want _ p _ q,R=>p∧wpQ S q R
 | .both p q,R=>wpQ S p R∧wpQ S q R
 | .find kd n ks k,R=>keysB kd ks=true∧wpQ S (k (findIx kd n ks)) R
 | .any k,R=> ∀v,wpQ S (k v) R
inductive Ty where
 |int (k:IntKind)|bool|str|ptr|fn|slice (e:Nat)|struct (fs:List (Nat×Nat))|map (k e:Nat)|other
structure TI where
 ty:Ty
 size:Nat
 bytes:Nat
 eq:Bool
inductive Mode where
 |pure|fresh|inout|both
inductive RV where
 |tmp (t:Nat)|cell (a t:Nat)
inductive Ord where
 |done
 |one (i:Nat) (r:Ord)
 |two (i:Nat) (r:Ord) (j:Nat) (s:Ord)
 |alt (i:Nat) (r:Ord) (s:Ord)
 |hold (i:Nat) (r:Ord)
 |keep (i:Nat) (ps:List Nat) (r:Ord)
structure FI where
 code:Code
 res:List RV
 mode:Mode
 live:List (List Nat×List Nat)
 draws:List (Nat×Ord)
 own:List (List Nat×List Nat)
 tidy:Bool
 fold:Bool:=false
inductive Tr (α:Type) where
 |z
 |n (l:Tr α) (v:α) (r:Tr α)
 |h (l:Tr α) (r:Tr α)
def Tr.get {α:Type}:Tr α→Nat→Option α
 | .z,_=>none
 | .n l v r,i=>match qd i 0 with
  |true=>some v
  |false=>match qd (Nat.mod i 2) 1 with
   |true=>l.get (Nat.div i 2)
   |false=>r.get (Nat.pred (Nat.div i 2))
 | .h l r,i=>match qd i 0 with
  |true=>none
  |false=>match qd (Nat.mod i 2) 1 with
   |true=>l.get (Nat.div i 2)
   |false=>r.get (Nat.pred (Nat.div i 2))
inductive Xf where
 |overlaps (t:Nat)
 |keys (gs:List Nat)
 |twin
structure Cx where
 ti:Tr TI
 fn:Tr (Option FI)
 ex:List (Nat×Xf)
 mks:List (Nat×Nat):= []
 keeps:List (Nat×Nat×List Nat):= []
 lends:List (Nat×List Nat×List Nat×List Nat×List Nat):= []
def lendAt:List (Nat×List Nat×List Nat×List Nat×List Nat)→(List Nat→List Nat→Bool)→Nat→List Nat→Option (List Nat×List Nat×List Nat)
 | [],_,_,_=>none
 |(g,q,ks,is,os)::r,eq,f,p=>match qd g f&&eq q p with|true=>some (ks,is,os)|false=>lendAt r eq f p
def keepIn:List (Nat×Nat×List Nat)→Nat→Nat→Option (List Nat)
 | [],_,_=>none
 |(f,d,l)::r,g,e=>match qd f g&&qd d e with|true=>some l|false=>keepIn r g e
def madeIn:List (Nat×Nat)→Nat→Nat→Bool
 | [],_,_=>false
 |(x,y)::r,t,d=>match qd x t&&qd y d with|true=>true|false=>madeIn r t d
def made (cx:Cx) (t:Nat):Option Nat→Bool
 |some d=>madeIn cx.mks t d
 |none=>false
def exAt:List (Nat×Xf)→Nat→Option Xf
 | [],_=>none
 |(g,x)::r,f=>match qd g f with|true=>some x|false=>exAt r f
def nth {α:Type}:List α→Nat→Option α
 | [],_=>none
 |x::_,0=>some x
 |_::r,n+1=>nth r n
def T.cells:T→List T
 | .agg vs=>vs
 |x=> [x]
def V.cells:V→List V
 | .t (.agg vs)=>vs.map .t
 | .agg vs=>vs
 |v=> [v]
def allT:List V→Option (List T)
 | []=>some []
 | .t x::r=>match allT r with|some l=>some (x::l)|none=>none
 |_=>none
def mkAgg (vs:List V):V:=match allT vs with|some l=> .t (.agg l)|none=> .agg vs
abbrev Env:=List (Nat×V)
def look:Env→Nat→V
 | [],_=> .t .any
 |(t',v)::r,t=>match qd t' t with|true=>v|false=>look r t
structure St where
 env:Env
 H:Heap
def force (v:V):Q V:=match v with
 | .t x=> .ret (.t x)
 | .nil=> .ret .nil
 | .fit s xs=> .ret (.fit s xs)
 | .all i l=> .ret (.all i l)
 | .sl i o n l=> .ret (.sl i o n l)
 | .ptr i j o=> .ret (.ptr i j o)
 | .clo f cs=> .ret (.clo f cs)
 | .agg vs=> .ret (.agg vs)
 | .tup vs=> .ret (.tup vs)
 | .map i=> .ret (.map i)
 | .also v x=> .ret (.also v x)
def forceT (x:T):Q T:=match x with
 | .any=> .ret .any
 | .int k n=> .ret (.int k n)
 | .bool b=> .ret (.bool b)
 | .str s=> .ret (.str s)
 | .agg vs=> .ret (.agg vs)
 | .sl s xs=> .ret (.sl s xs)
 | .ip s x o=> .ret (.ip s x o)
 | .clo f cs=> .ret (.clo f cs)
 | .nilp=> .ret .nilp
 | .nilf=> .ret .nilf
 | .nilm=> .ret .nilm
 | .nul=> .ret .nul
 | .pin v=> .ret (.pin v)
 | .mp ks vs=> .ret (.mp ks vs)
 | .box s x=> .ret (.box s x)
 | .row s xs=> .ret (.row s xs)
 | .vrow s xs=> .ret (.vrow s xs)
 | .dict ks xs=> .ret (.dict ks xs)
def cutT:List T→Nat→Nat→Q (List T)
 |_,_,0=> .ret []
 | [],_,_+1=> .fail
 |_::r,off+1,n+1=>cutT r off (n+1)
 |x::r,0,n+1=>(forceT x).bind fun x=>(cutT r 0 n).bind fun l=> .ret (x::l)
def cutV:List V→Nat→Nat→Q (List V)
 |_,_,0=> .ret []
 | [],_,_+1=> .fail
 |_::r,off+1,n+1=>cutV r off (n+1)
 |x::r,0,n+1=>(force x).bind fun x=>(cutV r 0 n).bind fun l=> .ret (x::l)
def over {α:Type}:List α→Nat→List α→List α
 |l,_,[]=>l
 | [],_,_::_=> []
 |x::r,off+1,ys=>x::over r off ys
 |_::r,0,y::ys=>y::over r 0 ys
def V.size (v:V):Nat:=v.cells.length
def constT:Value→Option T
 | .int k n=>some (.int k n)
 | .bool b=>some (.bool b)
 | .string s=>some (.str s)
 | .pointer none=>some .nilp
 | .nilFunc=>some .nilf
 | .map none=>some .nilm
 |_=>none
def constTs:List Value→Option (List T)
 | []=>some []
 |v::r=>match constT v,constTs r with|some x,some l=>some (x::l)|_,_=>none
def constV:Value→V
 | .slice none 0 0=> .nil
 | .agg cs=>match constTs cs.toList with|some l=> .t (.agg l)|none=> .t .any
 |v=>match constT v with|some x=> .t x|none=> .t .any
def bare (v:V):V:=match v with
 | .also _ x=> .t x
 |v=>v
def evalO (e:Env):Operand→V
 | .tmp t=>bare (look e t)
 | .const v=>constV v
 | .func f=> .t (.clo f [])
 | .global _=> .t .any
def litN (n:Nat):Q Nat:=match n with
 |0=> .ret 0|1=> .ret 1|2=> .ret 2|3=> .ret 3|4=> .ret 4|5=> .ret 5|6=> .ret 6|7=> .ret 7|8=> .ret 8
 |9=> .ret 9|10=> .ret 10|11=> .ret 11|12=> .ret 12|13=> .ret 13|14=> .ret 14|15=> .ret 15|16=> .ret 16
 |n=> .ret n
def forceN:List Nat→Q (List Nat)
 | []=> .ret []
 |x::r=>(litN x).bind fun x=>(forceN r).bind fun l=> .ret (x::l)
def typed (cx:Cx) (ty:Nat) (v:V):Q V:=match v with
 | .nil=>match cx.ti.get ty with
  |some {ty:= .slice e,.. }=>match cx.ti.get e with
   |some i=>(litN i.size).bind fun s=> .ret (.fit s [])
   |none=> .fail
  |_=> .fail
 | .t .nul=>match cx.ti.get ty with
  |some {ty:= .slice e,.. }=>match cx.ti.get e with
   |some i=>(litN i.size).bind fun s=> .ret (.fit s [])
   |none=> .fail
  |_=> .fail
 |v=>force v
def mem (l:List Nat) (i:Nat):Bool:=match l with
 | []=>false
 |x::r=>match qd x i with|true=>true|false=>mem r i
def T.shut:T→Bool
 | .box _ _=>true
 | .row _ _=>true
 | .vrow _ _=>true
 | .dict _ _=>true
 |_=>false
mutual
def T.deep:T→T
 | .agg vs=> .agg (deeps vs)
 | .box s x=> .ip s x.deep 0
 | .row s xs=> .sl s xs
 | .vrow s xs=> .sl s (deeps xs)
 | .dict ks xs=> .mp ks (deeps xs)
 |x=>x
def deeps:List T→List T
 | []=> []
 |x::r=>x.deep::deeps r
end
def V.shut:V→Bool
 | .t x=>x.shut
 |_=>false
def noShut:List V→Bool
 | []=>true
 |v::r=>match v.shut with|true=>false|false=>noShut r
def noShutT:List T→Bool
 | []=>true
 |x::r=>match x.shut with|true=>false|false=>noShutT r
mutual
def fz (l:List Nat) (H:Heap):Nat→V→Option T
 |0,_=>none
 |_+1,.t x=>some x
 |_+1,.nil=>none
 |_+1,.fit s xs=>some (.sl s xs)
 |_+1,.all id _=>match mem l id,nth H id with
  |true,some (.arr s xs _ _)=>some (.sl s xs)
  |_,_=>none
 |_+1,.sl id off len _=>match mem l id,nth H id with
  |true,some (.arr s xs _ _)=>some (.sl s ((xs.drop off).take len))
  |_,_=>none
 |n+1,.ptr id i j=>match mem l id,nth H id,i with
  |true,some (.one s v _),0=>match noShut v.cells with
   |true=>match fz l H n v with
    |some x=>some (.ip s x j)
    |none=>none
   |false=>none
  |_,_,_=>none
 |n+1,.clo f cs=>match fzs l H n cs with
  |some l=>some (.clo f l)
  |none=>none
 |n+1,.agg vs=>match fzs l H n vs with
  |some l=>some (.agg l)
  |none=>none
 |_+1,.tup _=>none
 |_+1,.map _=>none
 |_+1,.also _ _=>none
def fzs (l:List Nat) (H:Heap):Nat→List V→Option (List T)
 |0,_=>none
 |_+1,[]=>some []
 |n+1,v::r=>match fz l H n v,fzs l H n r with
  |some x,some l=>some (x::l)
  |_,_=>none
end
def depth:Nat:=40
mutual
def V.ids:V→List Nat
 | .all i _=> [i]
 | .sl i _ _ _=> [i]
 | .ptr i _ _=> [i]
 | .clo _ cs=>idss cs
 | .agg cs=>idss cs
 | .tup cs=>idss cs
 | .map i=> [i]
 |_=> []
def idss:List V→List Nat
 | []=> []
 |v::r=>v.ids++idss r
end
def idsP:List (Nat×V)→List Nat
 | []=> []
 |(_,v)::r=>v.ids++idsP r
def Ob.ids:Ob→List Nat
 | .one _ v _=>v.ids
 | .vec _ _ ps=>idsP ps
 | .map _ _ ps=>idsP ps
 | .rng _ _ ps it _=>it::idsP ps
 | .hand m=> [m]
 |_=> []
def reach (H:Heap):Nat→List Nat→List Nat→List Nat
 |0,_,done=>done
 |_+1,[],done=>done
 |n+1,i::todo,done=>match mem done i with
  |true=>reach H n todo done
  |false=>match nth H i with
   |some o=>reach H n (todo++o.ids) (done++ [i])
   |none=>reach H n todo (done++ [i])
def place:List Nat→Nat→Nat→Option Nat
 | [],_,_=>none
 |x::r,i,n=>match qd x i with|true=>some n|false=>place r i (n+1)
mutual
def V.re (m:Nat→Option Nat):V→Option V
 | .t x=>some (.t x)
 | .nil=>some .nil
 | .fit s xs=>some (.fit s xs)
 | .all i l=>match m i with|some j=>some (.all j l)|none=>none
 | .sl i o n l=>match m i with|some j=>some (.sl j o n l)|none=>none
 | .ptr i o n=>match m i with|some j=>some (.ptr j o n)|none=>none
 | .clo f cs=>match vre m cs with|some l=>some (.clo f l)|none=>none
 | .agg cs=>match vre m cs with|some l=>some (.agg l)|none=>none
 | .tup cs=>match vre m cs with|some l=>some (.tup l)|none=>none
 | .map i=>match m i with|some j=>some (.map j)|none=>none
 | .also v x=>some (.also v x)
def vre (m:Nat→Option Nat):List V→Option (List V)
 | []=>some []
 |v::r=>match v.re m,vre m r with|some x,some l=>some (x::l)|_,_=>none
end
def reP (m:Nat→Option Nat):List (Nat×V)→Option (List (Nat×V))
 | []=>some []
 |(i,v)::r=>match v.re m,reP m r with|some x,some l=>some ((i,x)::l)|_,_=>none
def Ob.re (m:Nat→Option Nat):Ob→Option Ob
 | .one s v ro=>match v.re m with|some v=>some (.one s v ro)|none=>none
 | .arr s xs f ro=>some (.arr s xs f ro)
 | .vec s xs ps=>match reP m ps with|some l=>some (.vec s xs l)|none=>none
 | .map ks xs ps=>match reP m ps with|some l=>some (.map ks xs l)|none=>none
 | .iter ks vs s=>some (.iter ks vs s)
 | .rng ks xs ps it s=>match reP m ps,m it with|some l,some j=>some (.rng ks xs l j s)|_,_=>none
 | .hand n=>match m n with|some j=>some (.hand j)|none=>none
 | .pool bs xs=>some (.pool bs xs)
 | .dead=>some .dead
def obre (m:Nat→Option Nat):Heap→Option Heap
 | []=>some []
 |o::r=>match o.re m,obre m r with|some o,some l=>some (o::l)|_,_=>none
def pull (m:Nat→Option Nat) (H:Heap):List Nat→Option Heap
 | []=>some []
 |i::r=>match nth H i with
  |some o=>match o.re m,pull m H r with
   |some o,some l=>some (o::l)
   |_,_=>none
  |none=>none
def upto:Nat→Nat→List Nat
 |_,0=> []
 |i,n+1=>i::upto (i+1) n
def nodupB:List Nat→Bool
 | []=>true
 |x::r=>match mem r x with|true=>false|false=>nodupB r
def startsB:Nat→Nat→List Nat→Bool
 |_,0,_=>true
 |i,n+1,x::r=>match qd x i with|true=>startsB (i+1) n r|false=>false
 |_,_+1,[]=>false
structure Gc where
 vs:List V
 H:Heap
 back:List Nat
def poolIds:Nat→Heap→List Nat
 |_,[]=> []
 |i,o::r=>match o with
  | .pool _ _=>i::poolIds (i+1) r
  |_=>poolIds (i+1) r
def gc (keep:Nat) (vs:List V) (H:Heap):Q Gc:=
 (forceN (reach H 200 (upto 0 keep++idss vs++poolIds 0 H) [])).bind fun back=>
  match nodupB back&&startsB 0 keep back,vre (fun i=>place back i 0) vs,pull (fun i=>place back i 0) H back with
  |true,some vs,some H'=> .ret ⟨vs,H',back⟩
  |_,_,_=> .fail
def setAll:Heap→List Nat→Heap→Option Heap
 |H,[],[]=>some H
 |H,i::back,o::os=>setAll (H.set i o) back os
 |_,_,_=>none
def roOb:Ob→Ob
 | .arr s xs f _=> .arr s xs f true
 | .one s v _=>match noShut v.cells with|true=> .one s v true|false=> .dead
 | .vec _ _ _=> .dead
 | .map _ _ _=> .dead
 | .iter _ _ _=> .dead
 | .rng _ _ _ _ _=> .dead
 | .hand _=> .dead
 | .pool _ _=> .dead
 | .dead=> .dead
def roAll:Nat→List Nat→Heap→Heap
 |_,_,[]=> []
 |n,l,o::r=>match mem l n with
  |true=>roOb o::roAll (n+1) l r
  |false=>o::roAll (n+1) l r
def T.flat:T→Bool
 | .int _ _=>true
 | .bool _=>true
 | .str _=>true
 |_=>false
def flats:List T→Bool
 | []=>true
 |x::r=>x.flat&&flats r
def toT (v:V) (H:Heap):Q (T×Heap):=match v with
 | .t x=> .ret (x,H)
 | .fit s xs=> .ret (.sl s xs,H)
 |v=>(forceN (reach H 200 v.ids [])).bind fun l=>match fz l H depth v with
  |some x=> .norm x fun x=> .ret (x,roAll 0 l H)
  |none=> .fail
mutual
def pinT:V→Option T
 | .t x=>some x
 | .fit _ []=>some .nul
 | .agg vs=>match pinTs vs with|some l=>some (.agg l)|none=>none
 |_=>none
def pinTs:List V→Option (List T)
 | []=>some []
 |v::r=>match pinT v,pinTs r with|some x,some l=>some (x::l)|_,_=>none
end
def zT (b:Bool) (z:V) (H:Heap):Q (T×Heap):=match b with
 |true=>match pinT z with|some x=> .ret (x,H)|none=> .fail
 |false=>toT z H
def fzClos:List V→Heap→Q (List V×Heap)
 | [],H=> .ret ([],H)
 |v::r,H=>match v with
  | .clo f cs=>match fz (reach H 200 (V.clo f cs).ids []) H depth (.clo f cs) with
   |some _=>(toT (.clo f cs) H).bind fun (x,H)=>(fzClos r H).bind fun (l,H)=> .ret (.t x::l,H)
   |none=>(fzClos r H).bind fun (l,H)=> .ret (.clo f cs::l,H)
  |v=>(fzClos r H).bind fun (l,H)=> .ret (v::l,H)
def fzArgs (l:List Nat) (H:Heap):List V→Q (List T)
 | []=> .ret []
 |v::r=>match v with
  | .t x=>(fzArgs l H r).bind fun ts=> .ret (x::ts)
  | .fit s xs=>(fzArgs l H r).bind fun ts=> .ret (.sl s xs::ts)
  | .sl id o n lim=>match fz l H depth (.sl id o n lim) with
   |some x=> .norm x fun x=>(fzArgs l H r).bind fun ts=> .ret (x::ts)
   |none=> .fail
  |v=>match fz l H depth v with
   |some x=>(fzArgs l H r).bind fun ts=> .ret (x::ts)
   |none=> .fail
def packRes (vs:List V) (H:Heap):Q (V×Heap):=match vs with
 | [v]=> .ret (v,H)
 |vs=> .ret (.tup vs,H)
def pureCall (f:Nat) (args:List V) (cs:List T) (H:Heap):Q (V×Heap):=
 (forceN (reach H 200 (idss args) [])).bind fun l=>
 (fzArgs l H args).bind fun az=>
  .ask (.call f ((az++cs).map .t) []) fun r=>match r with
   |⟨.ret,vs,_⟩=>match allT vs with
    |some ts=>match l with
     | []=>packRes vs H
     |l=> .test (flats ts) fun b=>match b with
      |true=>packRes vs H
      |false=>packRes vs (roAll 0 l H)
    |none=> .fail
   |_=> .fail
def setH:Heap→Nat→Ob→Q Heap
 | [],_,_=> .fail
 |_::r,0,o=> .ret (o::r)
 |x::r,n+1,o=>(setH r n o).bind fun r=> .ret (x::r)
def addH:Heap→Ob→Nat→Q (Nat×Heap)
 | [],o,n=>(litN n).bind fun n=> .ret (n,[o])
 |x::r,o,n=>(addH r o (n+1)).bind fun (n,r)=> .ret (n,x::r)
def alloc (o:Ob) (H:Heap):Q (Nat×Heap):=addH H o 0
def normL {α:Type} (xs:List T) (k:List T→Q α):Q α:= .norm (.sl 0 xs) fun y=>match y with
 | .sl _ ys=>k ys
 |_=> .fail
def cellsLike (old:V) (l:List V):Q V:=match old with
 | .t (.agg _)=>force (mkAgg l)
 | .agg _=>force (mkAgg l)
 |_=>match l with
  | [v]=> .ret v
  |_=> .fail
def closeC (R:List Nat) (id:Nat) (v:V) (H:Heap):Q (V×Heap):=match v with
 | .ptr n 0 0=>match mem R n||qd n id,nth H n with
  |false,some (.one s (.t y) false)=>(setH H n .dead).bind fun H=> .ret (.t (.box s y),H)
  |_,_=> .ret (v,H)
 | .all n none=>match mem R n||qd n id,nth H n with
  |false,some (.arr s xs _ false)=>(setH H n .dead).bind fun H=> .ret (.t (.row s xs),H)
  |false,some (.vec s xs [])=>(setH H n .dead).bind fun H=> .ret (.t (.vrow s xs),H)
  |_,_=> .ret (v,H)
 | .map n=>match mem R n||qd n id,nth H n with
  |false,some (.map ks xs [])=>(setH H n .dead).bind fun H=> .ret (.t (.dict ks xs),H)
  |_,_=> .ret (v,H)
 | .fit 1 []=> .ret (.t (.row 1 []),H)
 | .fit (s+2) []=> .ret (.t (.sl (s+2) []),H)
 |v=> .ret (v,H)
def refs:List V→Bool
 | []=>false
 | .ptr _ _ _::_=>true
 | .all _ _::_=>true
 | .map _::_=>true
 | .fit (_+1) []::_=>true
 |_::r=>refs r
def closeCs (R:List Nat) (id:Nat):List V→Heap→Q (List V×Heap)
 | [],H=> .ret ([],H)
 |v::r,H=>(closeC R id v H).bind fun (v,H)=>(closeCs R id r H).bind fun (r,H)=> .ret (v::r,H)
def closePs (R:List Nat) (id:Nat):List (Nat×V)→List T→Heap→Q (List (Nat×V)×List T×Heap)
 | [],xs,H=> .ret ([],xs,H)
 |(i,v)::r,xs,H=>(closeCs R id v.cells H).bind fun (l,H)=>(cellsLike v l).bind fun v=>(closePs R id r xs H).bind fun (r,xs,H)=>match v with
  | .t x=>normL (xs.set i x) fun xs=> .ret (r,xs,H)
  |v=> .ret ((i,v)::r,xs,H)
def closePm (R:List Nat) (id:Nat):List (Nat×V)→List T→Heap→Q (List (Nat×V)×List T×Heap)
 | [],xs,H=> .ret ([],xs,H)
 |(i,v)::r,xs,H=>(closeC R id v H).bind fun (v,H)=>(closePm R id r xs H).bind fun (r,xs,H)=>match v with
  | .t x=>normL (xs.set i x) fun xs=> .ret (r,xs,H)
  |v=> .ret ((i,v)::r,xs,H)
def closeOb (R:List Nat) (id:Nat) (o:Ob) (H:Heap):Q Heap:=match o with
 | .one s v false=>match refs v.cells with
  |true=>(closeCs R id v.cells H).bind fun (l,H)=>(cellsLike v l).bind fun v=>setH H id (.one s v false)
  |false=> .ret H
 | .vec s xs (p::ps)=>(closePs R id (p::ps) xs H).bind fun (ps,xs,H)=>setH H id (.vec s xs ps)
 | .map ks xs (p::ps)=>(closePm R id (p::ps) xs H).bind fun (ps,xs,H)=>setH H id (.map ks xs ps)
 |_=> .ret H
def closeAll (R A:List Nat):Nat→Heap→Q Heap
 |0,H=> .ret H
 |n+1,H=>(match mem A n,nth H n with
  |true,some o=>closeOb R n o H
  |_,_=> .ret H).bind fun H=>closeAll R A n H
def closeN (R:List Nat):Nat→Heap→Q Heap
 |0,H=> .ret H
 |n+1,H=>(forceN (reach H 200 R [])).bind fun A=>(closeAll R A H.length H).bind fun H=>closeN R n H
def foldR (b:Bool) (keep:Nat) (vs:List V) (H:Heap):Q Heap:=match b with
 |true=>(forceN (upto 0 keep++idss vs)).bind fun R=>closeN R 3 H
 |false=> .ret H
def foldC (ks:Option (List V)) (args:List V) (H:Heap):Q Heap:=match ks with
 |some l=>foldR true 0 (args++l) H
 |none=> .ret H
def callIO (ks:Option (List V)) (f:Nat) (args:List V) (H:Heap):Q (V×Heap):=(fzClos args H).bind fun (args,H)=>
 (foldC ks args H).bind fun H=>(gc 0 args H).bind fun g=>
  .ask (.call f g.vs g.H) fun r=>match r with
   |⟨.ret,vs,H1⟩=>(forceN (upto H.length (H1.length-g.back.length))).bind fun m=>
    match vre (nth (g.back++m)) vs,obre (nth (g.back++m)) H1 with
    |some vs,some H1=>match setAll H g.back (H1.take g.back.length) with
     |some H=>packRes vs (H++H1.drop g.back.length)
     |none=> .fail
    |_,_=> .fail
   |_=> .fail
mutual
def lz (H:Heap):Nat→V→Option T
 |0,_=>none
 |_+1,.t x=>some x.deep
 |_+1,.fit s xs=>some (.sl s xs)
 |_+1,.all id _=>match nth H id with
  |some (.arr s xs _ _)=>some (.sl s xs)
  |_=>none
 |n+1,.ptr id i j=>match nth H id,i with
  |some (.one s v _),0=>match lzs H n v.cells with
   |some l=>match v with
    | .t (.agg _)=>some (.ip s (.agg l) j)
    | .agg _=>some (.ip s (.agg l) j)
    |_=>match l with
     | [x]=>some (.ip s x j)
     |_=>none
   |none=>none
  |_,_=>none
 |n+1,.map id=>match nth H id with
  |some (.map ks xs ps)=>match lzP H n ps (deeps xs) with
   |some ys=>some (.mp ks ys)
   |none=>none
  |_=>none
 |_,_=>none
def lzs (H:Heap):Nat→List V→Option (List T)
 |0,_=>none
 |_+1,[]=>some []
 |n+1,v::r=>match lz H n v,lzs H n r with
  |some x,some l=>some (x::l)
  |_,_=>none
def lzP (H:Heap):Nat→List (Nat×V)→List T→Option (List T)
 |0,_,_=>none
 |_+1,[],xs=>some xs
 |n+1,(i,v)::r,xs=>match lz H n v,lzP H n r xs with
  |some x,some ys=>some (ys.set i x)
  |_,_=>none
end
def lendT {α:Type} (v:V) (H:Heap) (k:T→Q α):Q α:=match v with
 | .t x=>k x
 | .fit s xs=>k (.sl s xs)
 |v=>match lz H depth v with
  |some x=> .norm x k
  |none=> .fail
def oneT:T→Bool
 | .int _ _=>true
 | .bool _=>true
 | .sl _ _=>true
 | .ip _ _ _=>true
 | .mp _ _=>true
 |_=>false
def lendIn {α:Type} (H:Heap):List V→(List V→List Value→Q α)→Q α
 | [],k=>k [] []
 |v::r,k=>lendT v H fun x=>match oneT x with
  |true=> .any fun u=>lendIn H r fun l us=>k (.also u x::l) (u::us)
  |false=> .fail
def lendArgs {α:Type} (H:Heap):List V→(List T→Q α)→Q α
 | [],k=>k []
 |v::r,k=>lendT v H fun x=>lendArgs H r fun l=>k (x::l)
noncomputable def lendOut {α:Type}:List Value→List V→Q α→Q α
 | [],[],k=>k
 |u::us,v::vs,k=>match v with
  | .also u' _=> @Q.want _ (u'=u) (dl _) (lendOut us vs k)
  |_=> .fail
 |_,_,_=> .fail
def T.flat2:T→Bool
 | .agg vs=>flats vs
 |x=>x.flat
def flat2s:List T→Bool
 | []=>true
 |x::r=>x.flat2&&flat2s r
def flatH {α:Type}:Heap→Q α→Q α
 | [],k=>k
 | .arr _ xs _ false::r,k=> .want (flat2s xs=true) (flatH r k)
 |_,_=> .fail
def ownish:List V→Bool
 | []=>true
 | .t x::r=>x.flat2&&ownish r
 | .all _ none::r=>ownish r
 | .fit _ []::r=>ownish r
 |_=>false
def lendRes {α:Type} (n:Nat) (vs:List V) (H1:Heap) (k:List V→Heap→Q α):Q α:=
 flatH H1 (match ownish vs with
  |true=>(forceN (upto n H1.length)).bind fun m=>match vre (nth m) vs,obre (nth m) H1 with
   |some vs,some H1=>k vs H1
   |_,_=> .fail
  |false=> .fail)
def lendCall (f:Nat) (args:List V) (H:Heap):Q (V×Heap):=lendArgs H args fun xs=>
 .ask (.call f (xs.map .t) []) fun r=>match r with
  |⟨.ret,vs,H1⟩=>lendRes H.length vs H1 fun vs H1=>packRes vs (H++H1)
  |_=> .fail
def callF (cx:Cx) (ks:Option (List V)) (f:Nat) (args:List V) (H:Heap):Q (V×Heap):=
 match cx.fn.get f with
 |some (some fi)=>match fi.mode with
  | .pure=>match fzs (reach H 200 (idss args) []) H depth args with
   |some _=>pureCall f args [] H
   |none=>lendCall f args H
  | .fresh=>match fzs (reach H 200 (idss args) []) H depth args with
   |some _=>(forceN (reach H 200 (idss args) [])).bind fun l=>
    (fzArgs l H args).bind fun az=>
     .ask (.call f (az.map .t) []) fun r=>match r with
      |⟨.ret,vs,H1⟩=>(forceN (upto H.length H1.length)).bind fun m=>match vre (nth m) vs,obre (nth m) H1 with
       |some vs,some H1=>match l with
        | []=>packRes vs (H++H1)
        |l=>packRes vs (roAll 0 l H++H1)
       |_,_=> .fail
      |_=> .fail
   |none=>lendCall f args H
  | .inout=>callIO ks f args H
  | .both=>match fzs (reach H 200 (idss args) []) H depth args with
   |some _=>pureCall f args [] H
   |none=>callIO ks f args H
 |_=> .fail
mutual
def zeroV (cx:Cx):Nat→Nat→Option V
 |0,_=>none
 |n+1,t=>match cx.ti.get t with
  |some i=>match i.ty with
   | .int k=>some (.t (.int k 0))
   | .bool=>some (.t (.bool false))
   | .str=>some (.t (.str ⟨#[]⟩))
   | .ptr=>some (.t .nilp)
   | .fn=>some (.t .nilf)
   | .map _ _=>some (.t .nilm)
   | .slice e=>match cx.ti.get e with|some i=>some (.fit i.size [])|none=>none
   | .struct fs=>match zeroVs cx n fs with|some l=>some (mkAgg l)|none=>none
   | .other=>none
  |none=>none
def zeroVs (cx:Cx):Nat→List (Nat×Nat)→Option (List V)
 |0,_=>none
 |_+1,[]=>some []
 |n+1,(_,t)::r=>match zeroV cx n t,zeroVs cx n r with|some v,some l=>some (v.cells++l)|_,_=>none
end
def toTs:List V→Heap→Q (List T×Heap)
 | [],H=> .ret ([],H)
 |v::r,H=>(toT v H).bind fun (x,H)=>(toTs r H).bind fun (l,H)=> .ret (x::l,H)
def isStruct (cx:Cx) (t:Nat):Bool:=match cx.ti.get t with
 |some {ty:= .struct _,.. }=>true
 |_=>false
def sizeOf (cx:Cx) (t:Nat):Nat:=match cx.ti.get t with
 |some i=>i.size
 |none=>0
def bytesOf (cx:Cx) (t:Nat):Nat:=match cx.ti.get t with
 |some i=>i.bytes
 |none=>0
def there (H:Heap) (id:Nat):Bool:=match nth H id with
 |some (.one _ _ _)=>true
 |some (.arr _ _ _ _)=>true
 |some (.vec _ _ _)=>true
 |_=>false
def thereM (H:Heap) (id:Nat):Bool:=match nth H id with
 |some (.map _ _ _)=>true
 |_=>false
def alive (H:Heap):V→Bool
 | .ptr id _ _=>there H id
 | .all id _=>there H id
 | .sl id _ _ _=>there H id
 | .map id=>thereM H id
 | .tup _=>false
 |_=>true
def loadT (cx:Cx) (t:Nat) (s:Nat) (x:T) (j:Nat):Q V:=
 match isStruct cx t with
 |true=>match qd j 0&&qd (sizeOf cx t) s&& !Nat.beq s 1 with
  |true=> .ret (.t x)
  |false=>(cutT x.cells j (sizeOf cx t)).bind fun l=> .ret (.t (.agg l))
 |false=>(cutT x.cells j 1).bind fun l=>match l with
  | [x]=> .ret (.t x)
  |_=> .fail
def loadV (cx:Cx) (t:Nat) (s:Nat) (v:V) (j:Nat):Q V:=
 match isStruct cx t with
 |true=>match qd j 0&&qd (sizeOf cx t) s&& !Nat.beq s 1 with
  |true=>force v
  |false=>(cutV v.cells j (sizeOf cx t)).bind fun l=>force (mkAgg l)
 |false=>(cutV v.cells j 1).bind fun l=>match l with
  | [x]=> .ret x
  |_=> .fail
def partV (cx:Cx) (t:Nat) (vs:List V) (off:Nat):Q V:=
 match isStruct cx t with
 |true=>(cutV vs off (sizeOf cx t)).bind fun l=>force (mkAgg l)
 |false=>(cutV vs off 1).bind fun l=>match l with
  | [x]=> .ret x
  |_=> .fail
def takeP {α:Type} (i:Nat):List (Nat×V)→(Option V→List (Nat×V)→Q α)→Q α
 | [],k=>k none []
 |(j,v)::r,k=> .test (decide (i=j)) fun b=>match b with
  |true=>k (some v) r
  |false=>takeP i r fun o r=>k o ((j,v)::r)
def open1 (v:V):Q V:=match noShut v.cells with
 |true=> .ret v
 |false=> .fail
def poolAt:Nat→Heap→Option (Nat×List Nat×List T)
 |_,[]=>none
 |i,o::r=>match o with
  | .pool bs xs=>some (i,bs,xs)
  |_=>poolAt (i+1) r
def blkKeys (bs:List Nat):List T:=bs.map fun (b:Nat)=>T.int .i64 (b:Int)
def pinAt {α:Type} (b:Nat) (H:Heap) (k:Nat→List Nat→List T→Nat→Q α):Q α:=match poolAt 0 H with
 |some (p,bs,xs)=> .find .i64 b (blkKeys bs) fun i=>match i with
  |some i=>k p bs xs i
  |none=> .fail
 |none=> .fail
def loadAt (cx:Cx) (t:Nat) (a:V) (H:Heap):Q V:=match a with
 | .ptr id i j=>match nth H id with
  |some (.one s v _)=>match i with
   |0=>(loadV cx t s v j).bind open1
   |_=> .fail
  |some (.arr s xs _ _)=> .get xs i fun x=>loadT cx t s x j
  |some (.vec s xs ps)=>takeP i ps fun o _=>match o with
   |some v=>(loadV cx t s v j).bind open1
   |none=> .get xs i fun x=>(loadV cx t s (.t x) j).bind open1
  |_=> .fail
 | .t (.ip s x j)=>loadT cx t s x j
 | .t (.pin (.pointer (some ⟨b,j,none⟩)))=>pinAt b H fun _ _ xs i=> .get xs i fun x=>loadT cx t x.cells.length x j
 |_=> .fail
def openC (x:V) (H:Heap):Q (V×Heap):=match x with
 | .t (.box s y)=>(forceT y).bind fun y=>(alloc (.one s (.t y) false) H).bind fun (n,H)=> .ret (.ptr n 0 0,H)
 | .t (.row s xs)=>(alloc (.arr s xs none false) H).bind fun (n,H)=> .ret (.all n none,H)
 | .t (.vrow s xs)=>(alloc (.vec s xs []) H).bind fun (n,H)=> .ret (.all n none,H)
 | .t (.dict ks xs)=>(alloc (.map ks xs []) H).bind fun (n,H)=> .ret (.map n,H)
 |x=>(force x).bind fun x=> .ret (x,H)
def openCs:Nat→Nat→List V→Heap→Q (List V×Heap)
 |_,0,l,H=> .ret (l,H)
 |_,_+1,[],H=> .ret ([],H)
 |j+1,n+1,x::r,H=>(openCs j (n+1) r H).bind fun (r,H)=> .ret (x::r,H)
 |0,n+1,x::r,H=>(openC x H).bind fun (x,H)=>(openCs 0 n r H).bind fun (r,H)=> .ret (x::r,H)
def nCells (cx:Cx) (t:Nat):Nat:=match isStruct cx t with
 |true=>sizeOf cx t
 |false=>1
def openV (cx:Cx) (t j:Nat) (v:V) (H:Heap) (k:V→Heap→Q Heap):Q Heap:=match noShut ((v.cells.drop j).take (nCells cx t)) with
 |true=> .ret H
 |false=>(openCs j (nCells cx t) v.cells H).bind fun (l,H)=>(cellsLike v l).bind fun v=>k v H
def openAt (cx:Cx) (t:Nat) (a:V) (H:Heap):Q Heap:=match a with
 | .ptr id i j=>match nth H id with
  |some (.one s v false)=>openV cx t j v H fun v H=>setH H id (.one s v false)
  |some (.vec s xs ps)=>takeP i ps fun o r=>match o with
   |some v=>openV cx t j v H fun v H=>setH H id (.vec s xs ((i,v)::r))
   |none=> .get xs i fun x=>openV cx t j (.t x) H fun v H=>setH H id (.vec s xs ((i,v)::r))
  |_=> .ret H
 |_=> .ret H
def putV (cx:Cx) (t:Nat) (s:Nat) (old:V) (j:Nat) (v:V):Q V:=
 match isStruct cx t&&qd j 0&&qd (sizeOf cx t) s&& !Nat.beq s 1 with
 |true=>force v
 |false=>(cutV (over old.cells j v.cells) 0 s).bind fun l=>match old with
  | .t (.agg _)=>force (mkAgg l)
  | .agg _=>force (mkAgg l)
  |_=>match l with
   | [.t .any]=> .fail
   | [v]=> .ret v
   |_=> .fail
def putT (cx:Cx) (t:Nat) (s:Nat) (old:T) (j:Nat) (v:T):Q T:=
 match isStruct cx t&&qd j 0&&qd (sizeOf cx t) s&& !Nat.beq s 1 with
 |true=> .ret v
 |false=>(cutT (over old.cells j v.cells) 0 s).bind fun l=>match old with
  | .agg _=> .ret (.agg l)
  |_=>match l with
   | [.any]=> .fail
   | [v]=> .ret v
   |_=> .fail
def notAny:V→Bool
 | .t .any=>false
 |_=>true
def onlyIf {α:Type} (b:Bool) (q:Q α):Q α:=match b with
 |true=>q
 |false=> .fail
def fitsV (size s j:Nat) (v:V):Bool:=qd v.size size&&ph (j+v.size) s&&notAny v
def fitsT (size s j:Nat) (x:T):Bool:=qd x.cells.length size&&ph (j+x.cells.length) s&&notAny (.t x)
def laidV (id s:Nat) (xs:List T) (r:List (Nat×V)) (i:Nat) (v:V) (H:Heap):Q Heap:=match v with
 | .t x=>normL (xs.set i x) fun zs=>setH H id (.vec s zs r)
 |v=>setH H id (.vec s xs ((i,v)::r))
def storeAt (cx:Cx) (t:Nat) (a:V) (v:V) (H:Heap):Q Heap:=match a with
 | .ptr id i j=>match nth H id with
  |some (.one s old false)=>match i with
   |0=>match alive H v with
    |true=>onlyIf (fitsV (sizeOf cx t) s j v) ((putV cx t s old j v).bind fun v=>setH H id (.one s v false))
    |false=> .fail
   |_=> .fail
  |some (.arr s _ _ false)=>(toT v H).bind fun (x,H)=>match nth H id with
   |some (.arr _ xs sp false)=>
    onlyIf (fitsT (sizeOf cx t) s j x) (match isStruct cx t&&qd j 0&&qd (sizeOf cx t) s&& !Nat.beq s 1 with
    |true=> .want (i<xs.length) (normL (xs.set i x) fun zs=>setH H id (.arr s zs sp false))
    |false=> .get xs i fun old=>(putT cx t s old j x).bind fun y=>normL (xs.set i y) fun zs=>setH H id (.arr s zs sp false))
   |_=> .fail
  |some (.vec s xs ps)=>match alive H v with
   |true=>onlyIf (fitsV (sizeOf cx t) s j v) (takeP i ps fun o r=>match o with
    |some old=>(putV cx t s old j v).bind fun v=>laidV id s xs r i v H
    |none=> .get xs i fun old=>(putV cx t s (.t old) j v).bind fun v=>laidV id s xs r i v H)
   |false=> .fail
  |_=> .fail
 | .t (.pin (.pointer (some ⟨b,j,none⟩)))=>(toT v H).bind fun (x,H)=>pinAt b H fun p bs xs i=> .get xs i fun old=>
   onlyIf (fitsT (sizeOf cx t) old.cells.length j x) ((putT cx t old.cells.length old j x).bind fun y=>normL (xs.set i y) fun zs=>setH H p (.pool bs zs))
 |_=> .fail
def elems (es:Nat) (v:V) (H:Heap):Option (List T):=match v with
 | .t (.sl s xs)=>match qd s es with|true=>some xs|false=>none
 | .fit s xs=>match qd s es with|true=>some xs|false=>none
 | .all id _=>match nth H id with
  |some (.arr s xs _ _)=>match qd s es with|true=>some xs|false=>none
  |_=>none
 | .sl id off len _=>match nth H id with
  |some (.arr s xs _ _)=>match qd s es with|true=>some ((xs.drop off).take len)|false=>none
  |_=>none
 |_=>none
def lenV (v:V) (H:Heap):Option Nat:=match v with
 | .t (.sl _ xs)=>some xs.length
 | .fit _ xs=>some xs.length
 | .all id _=>match nth H id with
  |some (.arr _ xs _ _)=>some xs.length
  |some (.vec _ xs _)=>some xs.length
  |_=>none
 | .sl id _ len _=>match nth H id with
  |some (.arr _ _ _ _)=>some len
  |_=>none
 | .t (.str s)=>some s.size
 |_=>none
def idx {α:Type} (v:V) (k:Nat→Q α):Q α:=match v with
 | .t (.int _ n)=> .want (0≤n) (.nat n.toNat k)
 |_=> .fail
def optIdx {α:Type} (v:Option V) (d:Nat) (k:Nat→Q α):Q α:=match v with
 |some v=>idx v k
 |none=>k d
inductive Rm where
 |no|full|more (k:Nat)
def spL {α:Type} (lim sp:Option Nat) (g:Rm→Q α):Q α:=match lim with
 |some _=>g .no
 |none=>match sp with
  |none=>g .no
  |some k=> .test (decide (k=0)) fun z=>match z with
   |true=>g .full
   |false=>g (.more k)
def sliceOwn (es id off len:Nat) (lim:Option Nat) (H:Heap) (lo hi mx:Option V):Q (V×Heap):=match nth H id with
 |some (.arr s xs sp ro)=>match qd s es with
  |false=> .fail
  |true=>optIdx lo 0 fun l=>optIdx hi len fun h=>
   let plain (lim:Option Nat):Q (V×Heap):= .nat (off+l) fun o=> .nat (h-l) fun n=> .ret (.sl id o n lim,H)
   match mx with
   |some m=>idx m fun m=> .want (l≤h∧h≤m∧m≤len) (.nat (off+m) fun t=>plain (some t))
   |none=>spL lim sp fun rm=>match lim,rm with
    |none,.more k=> .want (l≤h∧off+h≤xs.length+k) (.test (decide (off+h≤xs.length)) fun b=>match b with
     |true=>plain lim
     |false=>match ro with
      |true=> .fail
      |false=>(setH H id .dead).bind fun H=>(alloc (.arr s (xs++zn k .any) (some 0) false) H).bind fun (i,H)=> .nat (off+l) fun o=> .nat (h-l) fun n=> .ret (.sl i o n none,H))
    |some t,_=> .want (l≤h∧off+h≤t∧t≤xs.length) (plain lim)
    |none,.full=> .want (l≤h∧off+h≤xs.length) (plain lim)
    |none,.no=> .want (l≤h∧h≤len) (plain lim)
 |_=> .fail
def sliceTree (s:Nat) (xs:List T) (lo hi mx:Option V):Q V:=optIdx lo 0 fun l=>optIdx hi xs.length fun h=>match mx with
 |some m=>idx m fun m=> .want (l≤h∧h=m∧h≤xs.length) (.norm (.sl s ((xs.drop l).take (h-l))) fun x=>match x with
  | .sl s xs=> .ret (.fit s xs)
  |_=> .fail)
 |none=> .want (l≤h∧h≤xs.length) (.norm (.sl s ((xs.drop l).take (h-l))) fun x=> .ret (.t x))
def sliceFit (s:Nat) (xs:List T) (lo hi mx:Option V):Q V:=match mx with
 |some _=>sliceTree s xs lo hi mx
 |none=>optIdx lo 0 fun l=>optIdx hi xs.length fun h=> .want (l≤h∧h≤xs.length) (.test (decide (h=xs.length)) fun b=> .norm (.sl s ((xs.drop l).take (h-l))) fun x=>match b with
  |true=>match x with
   | .sl s xs=> .ret (.fit s xs)
   |_=> .fail
  |false=> .ret (.t x))
def sliceV (es:Nat) (v:V) (H:Heap) (lo hi mx:Option V):Q (V×Heap):=match v with
 | .t (.sl s xs)=>match qd s es with|true=>(sliceTree s xs lo hi mx).bind fun v=> .ret (v,H)|false=> .fail
 | .fit s xs=>match qd s es with|true=>(sliceFit s xs lo hi mx).bind fun v=> .ret (v,H)|false=> .fail
 | .all id lim=>match nth H id with
  |some (.arr _ xs _ _)=>sliceOwn es id 0 xs.length lim H lo hi mx
  |_=> .fail
 | .sl id off len lim=>sliceOwn es id off len lim H lo hi mx
 |_=> .fail
def indexV (es:Nat) (v i:V) (H:Heap):Q V:=match v with
 | .t (.sl s xs)=>match qd s es with|true=>idx i fun i=> .get xs i fun x=> .ret (.t (.ip s x 0))|false=> .fail
 | .fit s xs=>match qd s es with|true=>idx i fun i=> .get xs i fun x=> .ret (.t (.ip s x 0))|false=> .fail
 | .all id _=>match nth H id with
  |some (.arr s xs _ _)=>match qd s es with|true=>idx i fun i=> .want (i<xs.length) (.ret (.ptr id i 0))|false=> .fail
  |some (.vec s xs _)=>match qd s es with|true=>idx i fun i=> .want (i<xs.length) (.ret (.ptr id i 0))|false=> .fail
  |_=> .fail
 | .sl id off len _=>match nth H id with
  |some (.arr s _ _ _)=>match qd s es with|true=>idx i fun i=> .want (i<len) (.nat (off+i) fun i=> .ret (.ptr id i 0))|false=> .fail
  |_=> .fail
 |_=> .fail
def appendMax:Nat:=2^47
def ownV (v:V) (H:Heap):Q (V×Heap):=match v with
 | .fit s []=>match Nat.blt 0 s with
  |true=>(alloc (.arr s [] none false) H).bind fun (i,H)=> .ret (.all i none,H)
  |false=> .ret (.fit s [],H)
 |v=> .ret (v,H)
def ownL (own:List Nat):List Nat→List V→Heap→Q (List V×Heap)
 |t::ts,v::vs,H=>match mem own t with
  |true=>(ownV v H).bind fun (v,H)=>(ownL own ts vs H).bind fun (vs,H)=> .ret (v::vs,H)
  |false=>(ownL own ts vs H).bind fun (vs,H)=> .ret (v::vs,H)
 |_,vs,H=> .ret (vs,H)
def tidyV (v:V) (H:Heap):Q (V×Heap):=match v with
 | .all id none=>match nth H id with
  |some (.arr s xs _ false)=>(setH H id .dead).bind fun H=>(alloc (.arr s xs none false) H).bind fun (i,H)=> .ret (.all i none,H)
  |_=> .fail
 | .sl id off len none=>match nth H id,qd off 0 with
  |some (.arr s xs _ false),true=>normL (xs.take len) fun zs=>(setH H id .dead).bind fun H=>(alloc (.arr s zs none false) H).bind fun (i,H)=> .ret (.all i none,H)
  |_,_=> .fail
 |v=>ownV v H
def tidyL:List V→Heap→Q (List V×Heap)
 | [],H=> .ret ([],H)
 |v::vs,H=>(tidyV v H).bind fun (v,H)=>(tidyL vs H).bind fun (vs,H)=> .ret (v::vs,H)
def tidyR (b:Bool) (vs:List V) (H:Heap):Q (List V×Heap):=match b with
 |true=>tidyL vs H
 |false=> .ret (vs,H)
def killO:Ob→Ob
 | .arr _ _ _ _=> .dead
 |o=>o
def killK:Nat→Heap→Heap
 |0,H=>H
 |_+1,[]=> []
 |n+1,o::r=>killO o::killK n r
def killR (b:Bool) (n:Nat) (H:Heap):Heap:=match b with
 |true=>killK n H
 |false=>H
def noPool:Heap→Heap
 | []=> []
 |o::r=>match o with
  | .pool _ _=> .dead::noPool r
  |o=>o::noPool r
def room (n bytes:Nat):Prop:=n*bytes≤appendMax∧n≤appendMax
instance (n bytes:Nat):Decidable (room n bytes):=by unfold room;infer_instance
def renew (id s:Nat) (xs:List T) (bytes:Nat) (H:Heap):Q (V×Heap):=normL xs fun xs=>
 .want (room xs.length bytes) ((setH H id .dead).bind fun H=>(alloc (.arr s xs none false) H).bind fun (i,H)=> .ret (.all i none,H))
def anew (s:Nat) (zs:List T) (bytes:Nat) (H:Heap):Q (V×Heap):=normL zs fun zs=> .want (room zs.length bytes) ((alloc (.arr s zs none false) H).bind fun (i,H)=> .ret (.all i none,H))
def inPlace (id s off len:Nat) (xs ys:List T) (sp lim:Option Nat) (ro:Bool) (H:Heap):Q (V×Heap):=match ro with
 |true=> .fail
 |false=>normL (xs.take (off+len)++ys++xs.drop (off+len+ys.length)) fun zs=>(setH H id (.arr s zs sp false)).bind fun H=> .nat (len+ys.length) fun n=> .ret (.sl id off n lim,H)
def appendV (es bytes:Nat) (v:V) (ys:List T) (H:Heap):Q (V×Heap):=
 match v with
 | .fit s []=>match qd s es with|true=>anew s ys bytes H|false=> .fail
 | .fit s xs=>match qd s es with|true=> .want (ys≠ []) (anew s (xs++ys) bytes H)|false=> .fail
 | .all id none=>match nth H id with
  |some (.arr s xs _ false)=>match qd s es with|true=>renew id s (xs++ys) bytes H|false=> .fail
  |_=> .fail
 | .sl id off len lim=>match nth H id with
  |some (.arr s xs sp ro)=>match qd s es with
   |false=> .fail
   |true=>spL lim sp fun rm=>match lim,rm with
    |some t,_=> .test (decide (off+len+ys.length≤t)) fun b=>match b with
     |true=> .want (t≤xs.length) (inPlace id s off len xs ys sp lim ro H)
     |false=>anew s ((xs.drop off).take len++ys) bytes H
    |none,.full=> .test (decide (off+len+ys.length≤xs.length)) fun b=>match b with
     |true=>inPlace id s off len xs ys sp lim ro H
     |false=>anew s ((xs.drop off).take len++ys) bytes H
    |none,_=>match ro with
     |true=> .fail
     |false=> .want (off=0∧len=xs.length) (renew id s (xs++ys) bytes H)
  |_=> .fail
 |_=> .fail
def writeOver (es id off len:Nat) (ys:List T) (H:Heap):Q (V×Heap):=match nth H id with
 |some (.arr s xs sp false)=>match qd s es with
  |true=> .nat (min ys.length len) fun n=>
   normL (xs.take off++ys.take n++xs.drop (off+n)) fun zs=>(setH H id (.arr s zs sp false)).bind fun H=> .ret (.t (.int .i64 n),H)
  |false=> .fail
 |_=> .fail
def copyV (es:Nat) (d:V) (ys:List T) (H:Heap):Q (V×Heap):=
 match d with
 | .all id _=>match nth H id with
  |some (.arr _ xs _ _)=>writeOver es id 0 xs.length ys H
  |_=> .fail
 | .sl id off len _=>writeOver es id off len ys H
 |_=> .fail
def capOwn (id off:Nat) (lim:Option Nat) (H:Heap):Q (V×Heap):=match nth H id with
 |some (.arr s xs sp ro)=>match lim,sp with
  |some l,_=> .want (xs≠ []) (.nat (l-off) fun n=> .ret (.t (.int .i64 n),H))
  |none,some k=> .nat (xs.length+k-off) fun n=> .ret (.t (.int .i64 n),H)
  |none,none=> .cap xs.length fun c=>(setH H id (.arr s xs (some (c-xs.length)) ro)).bind fun H=> .nat (c-off) fun n=> .ret (.t (.int .i64 n),H)
 |_=> .fail
def capV (v:V) (H:Heap):Q (V×Heap):=
 match v with
 | .t (.sl _ xs)=> .cap xs.length fun c=> .ret (.t (.int .i64 c),H)
 | .fit _ xs=> .nat xs.length fun n=> .ret (.t (.int .i64 n),H)
 | .all id lim=>capOwn id 0 lim H
 | .sl id off _ lim=>capOwn id off lim H
 |_=> .fail
def isBool (cx:Cx) (t:Nat):Bool:=match cx.ti.get t with
 |some i=>match i.ty with| .bool=>true|_=>false
 |none=>false
def isInt (cx:Cx) (t:Nat):Bool:=match cx.ti.get t with
 |some i=>match i.ty with| .int _=>true|_=>false
 |none=>false
def isPtr (cx:Cx) (t:Nat):Bool:=match cx.ti.get t with
 |some i=>match i.ty with| .ptr=>true|_=>false
 |none=>false
def eqK:IntKind→IntKind→Bool
 | .i8,.i8=>true| .i16,.i16=>true| .i32,.i32=>true| .i64,.i64=>true
 | .u8,.u8=>true| .u16,.u16=>true| .u32,.u32=>true| .u64,.u64=>true
 |_,_=>false
def eqI:Int→Int→Bool
 | .ofNat a,.ofNat b=>qd a b
 | .negSucc a,.negSucc b=>qd a b
 |_,_=>false
def eqBo:Bool→Bool→Bool
 |true,true=>true
 |false,false=>true
 |_,_=>false
def eqB8:List UInt8→List UInt8→Bool
 | [],[]=>true
 |a::x,b::y=>match qd a.toNat b.toNat with|true=>eqB8 x y|false=>false
 |_,_=>false
mutual
def T.eqB:T→T→Bool
 | .any,.any=>true
 | .int k n,.int j m=>match eqK k j with|true=>eqI n m|false=>false
 | .bool a,.bool b=>eqBo a b
 | .str a,.str b=>eqB8 a.data.toList b.data.toList
 | .agg a,.agg b=>eqTs a b
 | .sl s a,.sl t b=>match qd s t with|true=>eqTs a b|false=>false
 | .ip s x o,.ip t y p=>match qd s t&&qd o p with|true=>x.eqB y|false=>false
 | .clo f a,.clo g b=>match qd f g with|true=>eqTs a b|false=>false
 | .nilp,.nilp=>true
 | .nilf,.nilf=>true
 | .nilm,.nilm=>true
 | .nul,.nul=>true
 | .mp a b,.mp c d=>match eqTs a c with|true=>eqTs b d|false=>false
 | .box s a,.box t b=>match qd s t with|true=>a.eqB b|false=>false
 | .row s a,.row t b=>match qd s t with|true=>eqTs a b|false=>false
 | .vrow s a,.vrow t b=>match qd s t with|true=>eqTs a b|false=>false
 | .dict a b,.dict c d=>match eqTs a c with|true=>eqTs b d|false=>false
 |_,_=>false
def eqTs:List T→List T→Bool
 | [],[]=>true
 |a::x,b::y=>match a.eqB b with|true=>eqTs x y|false=>false
 |_,_=>false
end
def eqO:Option Nat→Option Nat→Bool
 |none,none=>true
 |some a,some b=>qd a b
 |_,_=>false
def eqN:List Nat→List Nat→Bool
 | [],[]=>true
 |a::x,b::y=>match qd a b with|true=>eqN x y|false=>false
 |_,_=>false
mutual
def V.eqB:V→V→Bool
 | .t a,.t b=>a.eqB b
 | .nil,.nil=>true
 | .fit s a,.fit t b=>match qd s t with|true=>eqTs a b|false=>false
 | .all i l,.all j m=>match qd i j with|true=>eqO l m|false=>false
 | .sl i o n l,.sl j p q m=>match qd i j&&qd o p&&qd n q with|true=>eqO l m|false=>false
 | .ptr a b c,.ptr d e f=>qd a d&&qd b e&&qd c f
 | .clo f a,.clo g b=>match qd f g with|true=>eqVs a b|false=>false
 | .agg a,.agg b=>eqVs a b
 | .tup a,.tup b=>eqVs a b
 | .map a,.map b=>qd a b
 |_,_=>false
def eqVs:List V→List V→Bool
 | [],[]=>true
 |a::x,b::y=>match a.eqB b with|true=>eqVs x y|false=>false
 |_,_=>false
end
mutual
def T.eqF:T→T→Option Bool
 | .int k a,.int j b=>some (eqK k j&&eqI a b)
 | .bool a,.bool b=>some (eqBo a b)
 | .agg a,.agg b=>eqFs a b
 |_,_=>none
def eqFs:List T→List T→Option Bool
 | [],[]=>some true
 |x::a,y::b=>match x.eqF y,eqFs a b with
  |some p,some q=>some (p&&q)
  |_,_=>none
 |_,_=>none
end
noncomputable def teq (x y:T):Bool:=match x.eqF y with
 |some b=>b
 |none=> @decide (x=y) (dl _)
def conformF (cx:Cx) (c:Nat→T→Bool):Nat→List (Nat×Nat)→List T→Bool
 |_,[],[]=>true
 |_,[],_::_=>false
 |pos,(off,t)::fs,vs=>qd off pos&&match isStruct cx t with
  |true=>ph (sizeOf cx t) vs.length&&c t (.agg (vs.take (sizeOf cx t)))&&conformF cx c (pos+sizeOf cx t) fs (vs.drop (sizeOf cx t))
  |false=>match vs with
   |x::vs=>c t x&&conformF cx c (pos+1) fs vs
   | []=>false
def conform (cx:Cx):Nat→Nat→T→Bool
 |0,_,_=>false
 |n+1,t,x=>match cx.ti.get t with
  |some i=>match i.ty,x with
   | .int k,.int k' _=>decide (k=k')
   | .bool,.bool _=>true
   | .struct fs,.agg vs=>i.eq&&conformF cx (conform cx n) 0 fs vs
   |_,_=>false
  |none=>false
def elemTy (cx:Cx) (t:Nat):Option Nat:=match cx.ti.get t with
 |some {ty:= .slice e,.. }=>some e
 |_=>none
def isNil (v:V) (k:Bool→Q V):Q V:=match v with
 | .nil=>k true
 | .t (.sl _ xs)=> .test (decide (xs.length=0)) fun b=>match b with|true=> .both (k true) (k false)|false=>k false
 | .fit _ xs=> .test (decide (xs.length=0)) fun b=>match b with|true=> .both (k true) (k false)|false=>k false
 | .all _ _=> .both (k true) (k false)
 | .sl _ _ _ _=> .both (k true) (k false)
 |_=> .fail
def nilSl (cx:Cx) (op:BinOp) (ty:Nat) (x y:V):Q V:=match y,elemTy cx ty with
 | .nil,some _=>match op with
  | .eql=>isNil x fun b=> .ret (.t (.bool b))
  | .neq=>isNil x fun b=> .ret (.t (.bool (!b)))
  |_=> .fail
 |_,_=> .fail
def nilCmp (cx:Cx) (ty:Nat) (op:BinOp) (b:Bool):Q V:=match isPtr cx ty with
 |true=>match op with
  | .eql=> .ret (.t (.bool b))
  | .neq=> .ret (.t (.bool (!b)))
  |_=> .fail
 |false=> .fail
noncomputable def binV (cx:Cx) (op:BinOp) (ty:Nat) (x y:V):Q V:=match x,y with
 | .t (.int k a),.t (.int k' b)=>match op with
  | .shl=> .want (0≤b) (.num k (a*2^(min b.toNat k.bits)) fun n=> .ret (.t (.int k n)))
  | .shr=> .want (0≤b) (.norm (.int k (a.fdiv (2^(min b.toNat k.bits)))) fun x=> .ret (.t x))
  |_=>match decide (k=k') with
   |false=> .fail
   |true=>match op with
    | .add=> .num k (a+b) fun n=> .ret (.t (.int k n))
    | .sub=> .num k (a-b) fun n=> .ret (.t (.int k n))
    | .mul=> .num k (a*b) fun n=> .ret (.t (.int k n))
    | .quo=> .want (b≠0) (.num k (a.tdiv b) fun n=> .ret (.t (.int k n)))
    | .rem=> .want (b≠0) (.norm (.int k (a.tmod b)) fun x=> .ret (.t x))
    | .and=> .num k (qv k.bits a&&&qv k.bits b).toNat fun n=> .ret (.t (.int k n))
    | .or=> .num k (qv k.bits a|||qv k.bits b).toNat fun n=> .ret (.t (.int k n))
    | .xor=> .num k (qv k.bits a^^^qv k.bits b).toNat fun n=> .ret (.t (.int k n))
    | .andNot=> .num k (qv k.bits a&&& ~~~qv k.bits b).toNat fun n=> .ret (.t (.int k n))
    | .eql=> .ret (.t (.bool (a==b)))
    | .neq=> .ret (.t (.bool (a !=b)))
    | .lss=> .ret (.t (.bool (decide (a<b))))
    | .leq=> .ret (.t (.bool (decide (a≤b))))
    | .gtr=> .ret (.t (.bool (decide (a>b))))
    | .geq=> .ret (.t (.bool (decide (a≥b))))
    |_=> .fail
 | .t (.bool a),.t (.bool b)=>match op with
  | .eql=> .want (isBool cx ty=true) (.ret (.t (.bool (a==b))))
  | .neq=> .want (isBool cx ty=true) (.ret (.t (.bool (!(a==b)))))
  |_=> .fail
 | .t (.agg xs),.t (.agg ys)=>match op with
  | .eql=> .want (conform cx depth ty (.agg xs)=true∧conform cx depth ty (.agg ys)=true) (.ret (.t (.bool (teq (.agg xs) (.agg ys)))))
  | .neq=> .want (conform cx depth ty (.agg xs)=true∧conform cx depth ty (.agg ys)=true) (.ret (.t (.bool (!(teq (.agg xs) (.agg ys))))))
  |_=> .fail
 | .t .nilp,.t .nilp=>nilCmp cx ty op true
 | .t .nilp,.ptr _ _ _=>nilCmp cx ty op false
 | .t .nilp,.t (.ip _ _ _)=>nilCmp cx ty op false
 | .ptr _ _ _,.t .nilp=>nilCmp cx ty op false
 | .t (.ip _ _ _),.t .nilp=>nilCmp cx ty op false
 | .t .nilp,.t (.pin (.pointer (some _)))=>nilCmp cx ty op false
 | .t (.pin (.pointer (some _))),.t .nilp=>nilCmp cx ty op false
 |x,y=>nilSl cx op ty x y
def unV (op:UnOp) (x:V):Q V:=match op,x with
 | .neg,.t (.int k n)=> .num k (0-n) fun n=> .ret (.t (.int k n))
 | .xor,.t (.int k n)=> .num k (qv k.bits (if k.signed then-1 else k.max)^^^qv k.bits n).toNat fun n=> .ret (.t (.int k n))
 | .not,.t (.bool b)=> .ret (.t (.bool (!b)))
 |_,_=> .fail
def intTy (cx:Cx) (t:Nat):Option IntKind:=match cx.ti.get t with
 |some {ty:= .int k,.. }=>some k
 |_=>none
def fieldAt (cx:Cx) (t f:Nat):Option (Nat×Nat):=match cx.ti.get t with
 |some {ty:= .struct fs,.. }=>nth fs f
 |_=>none
def args (cx:Cx) (e:Env):List Operand→List Nat→Q (List V)
 |x::xs,t::ts=>(typed cx t (evalO e x)).bind fun v=>(args cx e xs ts).bind fun l=> .ret (v::l)
 | [],_=> .ret []
 |x::xs,[]=>(force (evalO e x)).bind fun v=>(args cx e xs []).bind fun l=> .ret (v::l)
def fill (cx:Cx) (e:Env) (H:Heap) (fs:List (Nat×Nat)):List (Nat×Operand)→List V→Q (List V)
 | [],cs=> .ret cs
 |(i,x)::r,cs=>match nth fs i with
  |some (off,t)=>(typed cx t (evalO e x)).bind fun v=>match qd v.size (sizeOf cx t)&&ph (off+v.size) cs.length&&alive H v with
   |true=>match v with
    | .t .any=> .fail
    |v=>fill cx e H fs r (over cs off v.cells)
   |false=> .fail
  |none=> .fail
def partsAt:Nat→List (Nat×Operand)→Option (List Operand)
 |_,[]=>some []
 |n,(i,x)::r=>match qd i n,partsAt (n+1) r with
  |true,some l=>some (x::l)
  |_,_=>none
def sameOp:Operand→Operand→Bool
 | .tmp a,.tmp b=>qd a b
 |_,_=>false
def minI (a b:Int):Int:=if b<a then b else a
def maxI (a b:Int):Int:=if b>a then b else a
def foldI (f:Int→Int→Int) (k:IntKind):Int→List V→Q V
 |n,[]=> .norm (.int k n) fun x=> .ret (.t x)
 |n,.t (.int k' m)::r=>match decide (k=k') with|true=>foldI f k (f n m) r|false=> .fail
 |_,_=> .fail
def isTreeSl (es:Nat):V→Bool
 | .fit s _=>qd s es
 | .t (.sl s _)=>qd s es
 |_=>false
def isOwnSl (H:Heap):V→Bool
 | .all id _=>match nth H id with|some (.arr _ _ _ false)=>true|_=>false
 | .sl id _ _ _=>match nth H id with|some (.arr _ _ _ false)=>true|_=>false
 |_=>false
def keyInts:List T→List Int
 | []=> []
 | .int _ n::r=>n::keyInts r
 |_::r=>keyInts r
def insI (n:Int):List Int→List Int
 | []=> [n]
 |m::r=>match decide (n≤m) with|true=>n::m::r|false=>m::insI n r
def sortI:List Int→List Int
 | []=> []
 |n::r=>insI n (sortI r)
def newI (n:Int):List Int→Bool
 | []=>true
 |m::r=>match n==m with|true=>false|false=>newI n r
def goodI:List Int→Bool
 | []=>true
 |n::r=>decide (-9223372036854775808≤n)&&decide (n≤9223372036854775807)&&newI n r&&goodI r
def goodKeys (ks:List T):Bool:=keysB .i64 ks&&goodI (keyInts ks)&&ph ks.length 1000000
def extV (cx:Cx) (x:Xf) (vs:List V) (H:Heap):Q (V×Heap):=match x,vs with
 | .keys gs,[.clo f [.ptr b 0 0]]=>match mem gs f,nth H b with
  |true,some (.one 1 (.map m) _)=>match nth H m with
   |some (.map ks _ _)=> .want (goodKeys ks=true) (.norm (.sl 1 ((sortI (keyInts ks)).map (.int .i64))) fun x=> .ret (.t x,H))
   |_=> .fail
  |_,_=> .fail
 | .overlaps t,[a,b]=>match elemTy cx t with
  |some el=>match isTreeSl (sizeOf cx el) a&&isOwnSl H b with
   |true=> .ret (.t (.bool false),H)
   |false=> .fail
  |none=> .fail
 | .twin,[.t .nilm]=> .ret (.t .nilm,H)
 | .twin,[.map id]=>match nth H id with
  |some (.map ks xs [])=>onlyIf (noShutT xs) ((alloc (.map ks xs []) H).bind fun (i,H)=> .ret (.map i,H))
  |_=> .fail
 |_,_=> .fail
def lenTy (cx:Cx) (t:Nat):V→Bool
 | .t (.str _)=>match cx.ti.get t with
  |some {ty:= .str,.. }=>true
  |_=>false
 |_=>(elemTy cx t).isSome
def mapTy (cx:Cx) (t:Nat):Option (IntKind×Nat):=match cx.ti.get t with
 |some {ty:= .map k e,.. }=>match intTy cx k with
  |some kd=>some (kd,e)
  |none=>none
 |_=>none
def given (b:Bool) (v:V) (is:Bool):Q V:=match b with
 |true=>(force v).bind fun v=> .ret (.tup [v,.t (.bool is)])
 |false=>force v
def lookupV (cx:Cx) (t:Nat) (x ix:V) (b:Bool) (H:Heap):Q (V×Heap):=match mapTy cx t,ix with
 |some (kd,e),.t (.int kd' n)=>match decide (kd=kd'),zeroV cx depth e with
  |true,some z=>
   let no:Q (V×Heap):=(given b z false).bind fun v=> .ret (v,H)
   match x with
   | .t .nilm=>no
   | .t (.mp ks xs)=> .find kd n ks fun i=>match i with
    |some i=> .get xs i fun x=>(given b (.t x) true).bind fun v=> .ret (v,H)
    |none=>no
   | .map id=>match nth H id with
    |some (.map ks xs ps)=> .find kd n ks fun i=>match i with
     |some i=>takeP i ps fun o r=>match o with
      |some v=>(open1 v).bind fun v=>(given b v true).bind fun v=> .ret (v,H)
      |none=> .get xs i fun x=>match x.shut with
       |true=>(openC (.t x) H).bind fun (v,H)=>(setH H id (.map ks xs ((i,v)::r))).bind fun H=>(given b v true).bind fun v=> .ret (v,H)
       |false=>(open1 (.t x)).bind fun v=>(given b v true).bind fun v=> .ret (v,H)
     |none=>no
    |_=> .fail
   |_=> .fail
  |_,_=> .fail
 |_,_=> .fail
def frz (cx:Cx) (t:Nat) (v:V) (H:Heap):Q (V×Heap):=match elemTy cx t with
 |some _=>(toT v H).bind fun (x,H)=> .ret (.t x,H)
 |none=> .ret (v,H)
def mapPut (cx:Cx) (t:Nat) (m ix v:V) (H:Heap):Q (V×Heap):=match mapTy cx t,ix,m with
 |some (kd,_),.t (.int kd' n),.map id=>match decide (kd=kd')&&alive H v&&notAny v,nth H id with
  |true,some (.map ks xs ps)=> .find kd n ks fun i=>match i with
   |some i=>takeP i ps fun _ r=>match v with
    | .t x=>normL (xs.set i x) fun xs=>(setH H id (.map ks xs r)).bind fun H=> .ret (.tup [],H)
    |v=>(setH H id (.map ks xs ((i,v)::r))).bind fun H=> .ret (.tup [],H)
   |none=>normL (ks++ [.int kd n]) fun ks'=>match v with
    | .t x=>normL (xs++ [x]) fun xs=>(setH H id (.map ks' xs ps)).bind fun H=> .ret (.tup [],H)
    |v=>normL (xs++ [.nilp]) fun xs=> .nat ks.length fun i=>(setH H id (.map ks' xs ((i,v)::ps))).bind fun H=> .ret (.tup [],H)
  |_,_=> .fail
 |_,_,_=> .fail
def mapDel (cx:Cx) (t:Nat) (m ix:V) (H:Heap):Q (V×Heap):=match mapTy cx t,ix,m with
 |some (kd,_),.t (.int kd' n),.map id=>match decide (kd=kd'),nth H id with
  |true,some (.map ks xs ps)=> .find kd n ks fun i=>match i with
   |some i=>takeP i ps fun _ r=>match r with
    | []=>normL (ks.eraseIdx i) fun ks=>normL (xs.eraseIdx i) fun xs=>(setH H id (.map ks xs [])).bind fun H=> .ret (.tup [],H)
    |_=> .fail
   |none=> .ret (.tup [],H)
  |_,_=> .fail
 |_,_,_=> .fail
def toldIn (i:Nat):List (Nat×V)→Bool
 | []=>false
 |(j,_)::r=>match qd i j with|true=>true|false=>toldIn i r
def toldAll:Nat→List (Nat×V)→Bool
 |0,_=>true
 |n+1,ps=>match toldIn n ps with|true=>toldAll n ps|false=>false
def openP:List (Nat×V)→Bool
 | []=>true
 |(_,v)::r=>match noShut v.cells with|true=>openP r|false=>false
def vecOf (es:Nat) (s x:V) (H:Heap):Option (List T×List (Nat×V)):=match s,x with
 | .fit z [],.all id _=>match qd z es,nth H id with
  |true,some (.vec s (x::xs) ps)=>match qd s es&&toldAll (x::xs).length ps&&openP ps with
   |true=>some (x::xs,ps)
   |false=>none
  |_,_=>none
 |_,_=>none
def vecOne (es:Nat) (s x:V) (H:Heap):Option (Nat×List T×List (Nat×V)×V):=match s,x with
 | .all id none,.all j _=>match nth H id,nth H j with
  |some (.vec z xs ps),some (.vec z' [_] [(0,v)])=>match qd z es&&qd z' es&&noShut v.cells with
   |true=>some (id,xs,ps,v)
   |false=>none
  |some (.arr z [] _ false),some (.vec z' [_] [(0,v)])=>match qd z es&&qd z' es&&noShut v.cells with
   |true=>some (id,[],[],v)
   |false=>none
  |_,_=>none
 |_,_=>none
def pooled (b:Bool) (v:V) (H:Heap):Q (V×Heap):=match b,v with
 |true,.ptr n 0 0=>match nth H n,poolAt 0 H with
  |some (.one _ (.t x) false),some (p,bs,xs)=>match noShutT x.cells&&Nat.blt 0 x.cells.length with
   |true=> .new bs fun c=>normL (xs++ [x]) fun ys=>(setH H n .dead).bind fun H=>(setH H p (.pool (bs++ [c]) ys)).bind fun H=> .ret (.t (.pin (.pointer (some ⟨c,0,none⟩))),H)
   |false=> .ret (v,H)
  |_,_=> .ret (v,H)
 |_,_=> .ret (v,H)
def renewV (id es bytes:Nat) (xs:List T) (ps:List (Nat×V)) (v:V) (H:Heap):Q (V×Heap):=match v with
 | .t y=>normL (xs++ [y]) fun zs=> .want (0<bytes∧room zs.length bytes) ((setH H id .dead).bind fun H=>(alloc (.vec es zs ps) H).bind fun (i,H)=> .ret (.all i none,H))
 |v=>normL (xs++ [.nilp]) fun zs=> .want (0<bytes∧room zs.length bytes) (.nat xs.length fun n=>(setH H id .dead).bind fun H=>(alloc (.vec es zs ((n,v)::ps)) H).bind fun (i,H)=> .ret (.all i none,H))
def builtinV (cx:Cx) (b:Builtin) (ts:List Nat) (vs:List V) (H:Heap):Q (V×Heap):=match b,vs with
 | .len,[v]=>match ts with
  | [t]=>match lenTy cx t v,lenV v H with
   |true,some n=> .nat n fun n=> .ret (.t (.int .i64 n),H)
   |_,_=> .fail
  |_=> .fail
 | .cap,[v]=>match ts with
  | [t]=>match elemTy cx t with
   |some _=>capV v H
   |none=> .fail
  |_=> .fail
 | .append,[s,x]=>match ts with
  | [t,t']=>match elemTy cx t with
   |some e=>match x with
    | .t (.int _ n)=>match isInt cx t',zeroV cx depth e with
      |true,some z=>(toT z H).bind fun (z,H)=> .want (0≤n∧room n.toNat (bytesOf cx e)) (.nat n.toNat fun n=>appendV (sizeOf cx e) (bytesOf cx e) s (zn n z) H)
      |_,_=> .fail
    |x=>match qd t t',vecOf (sizeOf cx e) s x H with
     |true,some (xs,ps)=> .want (0<bytesOf cx e∧room xs.length (bytesOf cx e)) ((alloc (.vec (sizeOf cx e) xs ps) H).bind fun (i,H)=> .ret (.all i none,H))
     |_,_=>match qd t t',vecOne (sizeOf cx e) s x H with
     |true,some (id,xs,ps,v)=>renewV id (sizeOf cx e) (bytesOf cx e) xs ps v H
     |_,_=>match qd t t',elems (sizeOf cx e) x H with
      |true,some ys=> .want (0<bytesOf cx e) (.norm (.sl 0 ys) fun y=>match y with
       | .sl _ ys=>appendV (sizeOf cx e) (bytesOf cx e) s ys H
       |_=> .fail)
      |_,_=> .fail
   |none=> .fail
  |_=> .fail
 | .clear,[d]=>match ts with
  | [t]=>match elemTy cx t with
   |some e=>match zeroV cx depth e with
    |some z=>(toT z H).bind fun (z,H)=>match lenV d H with
      |some n=>(copyV (sizeOf cx e) d (zn n z) H).bind fun (_,H)=> .ret (.tup [],H)
      |none=> .fail
    |none=> .fail
   |none=> .fail
  |_=> .fail
 | .copy,[d,x]=>match ts with
  | [t,_]=>match elemTy cx t with
   |some e=>match elems (sizeOf cx e) x H with
    |some ys=>copyV (sizeOf cx e) d ys H
    |none=> .fail
   |none=> .fail
  |_=> .fail
 | .delete,[m,k]=>match ts with
  | [t,_]=>mapDel cx t m k H
  |_=> .fail
 | .min,.t (.int k n)::r=>(foldI minI k n r).bind fun v=> .ret (v,H)
 | .max,.t (.int k n)::r=>(foldI maxI k n r).bind fun v=> .ret (v,H)
 |_,_=> .fail
def sizesOk (H:Heap) (s:Nat):List V→Bool
 | []=>true
 |v::r=>qd v.size s&&alive H v&&notAny v&&sizesOk H s r
def newOne (cx:Cx) (t:Nat) (v:V) (H:Heap):Q (V×Heap):=match v,qd v.size (sizeOf cx t)&&alive H v with
 | .t .any,_=> .fail
 |v,true=>(litN (sizeOf cx t)).bind fun s=>(alloc (.one s v false) H).bind fun (i,H)=> .ret (.ptr i 0 0,H)
 |_,false=> .fail
mutual
def flatTy (cx:Cx):Nat→Nat→Bool
 |0,_=>false
 |n+1,t=>match cx.ti.get t with
  |some i=>match i.ty with
   | .int _=>true
   | .bool=>true
   | .str=>true
   | .struct fs=>flatTys cx n fs
   |_=>false
  |none=>false
def flatTys (cx:Cx):Nat→List (Nat×Nat)→Bool
 |0,_=>false
 |_+1,[]=>true
 |n+1,(_,t)::r=>flatTy cx n t&&flatTys cx n r
end
def litSl (b:Bool) (s:Nat) (xs:List T) (H:Heap):Q (V×Heap):=match b with
 |true=>(alloc (.arr s xs (some 0) false) H).bind fun (i,H)=> .ret (.all i none,H)
 |false=> .ret (.fit s xs,H)
def plainV:V→Bool
 | .all _ _=>true
 | .ptr _ _ _=>true
 | .agg _=>true
 | .map _=>true
 |_=>false
def plainVs:List V→Bool
 | []=>true
 |v::r=>plainV v&&plainVs r
def vecMade (b:Bool) (z:T):Bool:=match b,z with
 |true,.nilm=>true
 |true,.nilp=>true
 |_,_=>false
def madeVec (b:Bool) (es:Nat) (vs:List V):Bool:=b&&Nat.blt 0 es&&plainVs vs
def enumP:Nat→List V→List (Nat×V)
 |_,[]=> []
 |i,v::r=>(i,v)::enumP (i+1) r
def isFnB (cx:Cx) (f:Nat):Bool:=match cx.fn.get f with
 |some (some _)=>true
 |_=>false
def unseen (seen:List Nat):Nat→Nat→List Nat
 |_,0=> []
 |i,n+1=>match mem seen i with
  |true=>unseen seen (i+1) n
  |false=>i::unseen seen (i+1) n
def anyOf {α:Type} (k:Nat→Q α):List Nat→Q α
 | []=> .fail
 | [i]=>k i
 |i::r=> .both (k i) (anyOf k r)
def openAll (id:Nat) (ks xs:List T):Nat→Nat→List (Nat×V)→Heap→Q Heap
 |0,_,_,H=> .ret H
 |n+1,i,ps,H=>takeP i ps fun o r=>match o with
  |some _=>openAll id ks xs n (i+1) ps H
  |none=> .get xs i fun x=>match x.shut with
   |true=>(openC (.t x) H).bind fun (v,H)=>(setH H id (.map ks xs ((i,v)::r))).bind fun H=>openAll id ks xs n (i+1) ((i,v)::r) H
   |false=>openAll id ks xs n (i+1) ps H
def rangeV (cx:Cx) (t:Nat) (x:V) (H:Heap):Q (V×Heap):=match mapTy cx t,x with
 |some _,.t (.mp ks vs)=>(alloc (.iter ks vs []) H).bind fun (i,H)=> .ret (.ptr i 0 0,H)
 |some _,.map id=>match nth H id with
  |some (.map ks xs ps)=>(openAll id ks xs ks.length 0 ps H).bind fun H=>match nth H id with
   |some (.map ks xs ps)=>(alloc (.hand id) H).bind fun (i,H)=>(setH H id (.rng ks xs ps i [])).bind fun H=> .ret (.ptr i 0 0,H)
   |_=> .fail
  |_=> .fail
 |_,_=> .fail
def lastN:List Nat→Option Nat
 | []=>none
 | [x]=>some x
 |_::y::r=>lastN (y::r)
def nextV (x:V) (H:Heap):Q (V×Heap):=match x with
 | .ptr id 0 0=>match nth H id with
  |some (.iter ks vs seen)=>match unseen seen 0 ks.length with
   | []=> .ret (.tup [.t (.bool false)],H)
   |l=>anyOf (fun i=>(litN i).bind fun i=> .get ks i fun k=> .get vs i fun v=>(setH H id (.iter ks vs (seen++ [i]))).bind fun H=> .ret (.tup [.t (.bool true),.t k,.t v],H)) l
  |some (.hand m)=>match nth H m with
   |some (.rng ks xs ps it seen)=>match qd it id with
    |true=>match unseen seen 0 ks.length with
     | []=>(setH H m (.map ks xs ps)).bind fun H=> .ret (.tup [.t (.bool false)],H)
     |l=>anyOf (fun i=>(litN i).bind fun i=> .get ks i fun k=>(setH H m (.rng ks xs ps it (seen++ [i]))).bind fun H=> .ret (.tup [.t (.bool true),.t k,.t .any],H)) l
    |false=> .fail
   |_=> .fail
  |_=> .fail
 |_=> .fail
def entryV (x:V) (H:Heap):Q V:=match x with
 | .ptr id 0 0=>match nth H id with
  |some (.iter ks vs seen)=>match lastN seen with
   |some i=> .get ks i fun k=> .get vs i fun v=> .ret (.tup [.t k,.t v])
   |none=> .fail
  |some (.hand m)=>match nth H m with
   |some (.rng ks xs ps it seen)=>match qd it id,lastN seen with
    |true,some i=> .get ks i fun k=>takeP i ps fun o _=>match o with
     |some v=>(open1 v).bind fun v=> .ret (.tup [.t k,v])
     |none=> .get xs i fun x=>(open1 (.t x)).bind fun v=> .ret (.tup [.t k,v])
    |_,_=> .fail
   |_=> .fail
  |_=> .fail
 |_=> .fail
def kept (cx:Cx) (e:Env) (f:Nat) (d:Option Nat):Option (List V):=match d with
 |some d=>match keepIn cx.keeps f d with
  |some l=>some (l.map (look e))
  |none=>none
 |none=>none
noncomputable def opQ (cx:Cx) (o:Oper) (e:Env) (H:Heap):Q (V×Heap):=
 let pure (q:Q V):Q (V×Heap):=q.bind fun v=> .ret (v,H)
 match o.op with
 | .move x=>pure (typed cx o.type (evalO e x))
 | .assign x=>pure (typed cx o.type (evalO e x))
 | .pick c a b=>match evalO e c with
   | .t (.bool c)=> .test c fun c=>match c with
     |true=>pure (force (evalO e a))
     |false=>pure (force (evalO e b))
   |_=> .fail
 | .alloc t=>match zeroV cx depth t with
   |some z=>(force z).bind fun z=>newOne cx t z H
   |none=> .fail
 | .box t x=>(typed cx t (evalO e x)).bind fun v=>newOne cx t v H
 | .build t parts=>match zeroV cx depth t,cx.ti.get t with
   |some z,some {ty:= .struct fs,.. }=>(fill cx e H fs parts.toList z.cells).bind fun cs=>(cutV cs 0 (sizeOf cx t)).bind fun cs=>pure (force (mkAgg cs))
   |_,_=> .fail
 | .buildSlice t len parts=>match elemTy cx t,partsAt 0 parts.toList with
   |some el,some xs=>match qd len xs.length&&ph (len*sizeOf cx el) 16777216 with
     |true=>(litN (sizeOf cx el)).bind fun s=>(args cx e xs (xs.map fun _=>el)).bind fun vs=>match sizesOk H (sizeOf cx el) vs with
      |true=>match flatTy cx depth el with
       |true=>match allT vs with
         |some xs=>litSl (made cx t o.dst) s xs H
         |none=> .fail
       |false=>match madeVec (made cx t o.dst) (sizeOf cx el) vs with
        |true=>(alloc (.vec s (vs.map fun _=> .nilp) (enumP 0 vs)) H).bind fun (i,H)=> .ret (.all i none,H)
        |false=>(toTs vs H).bind fun (xs,H)=>litSl (made cx t o.dst) s xs H
      |false=> .fail
     |false=> .fail
   |_,_=> .fail
 | .load t a=>(openAt cx t (evalO e a) H).bind fun H=>(loadAt cx t (evalO e a) H).bind fun v=> .ret (v,H)
 | .store t a x=>(typed cx t (evalO e x)).bind fun v=>(storeAt cx t (evalO e a) v H).bind fun H=> .ret (.tup [],H)
 | .nilCheck x=>match evalO e x with
   | .ptr i j k=>match nth H i with
     |some (.one _ _ _)=> .ret (.ptr i j k,H)
     |some (.arr _ _ _ _)=> .ret (.ptr i j k,H)
     |some (.vec _ _ _)=> .ret (.ptr i j k,H)
     |_=> .fail
   | .t (.ip s x j)=> .ret (.t (.ip s x j),H)
   | .t (.pin (.pointer (some a)))=> .ret (.t (.pin (.pointer (some a))),H)
   | .t (.clo f cs)=> .ret (.t (.clo f cs),H)
   | .clo f cs=> .ret (.clo f cs,H)
   |_=> .fail
 | .binOp op t x y _=>match alive H (evalO e x)&&alive H (evalO e y) with
   |true=>pure (binV cx op t (evalO e x) (evalO e y))
   |false=> .fail
 | .unOp op _ x=>pure (unV op (evalO e x))
 | .convert _ dst x=>match evalO e x,intTy cx dst with
   | .t (.int _ n),some k=> .num k n fun n=> .ret (.t (.int k n),H)
   |_,_=> .fail
 | .makeMap t none=>match mapTy cx t with
   |some _=>match made cx t o.dst with
     |true=>(alloc (.pool [] []) H).bind fun (_,H)=>(alloc (.map [] [] []) H).bind fun (i,H)=> .ret (.map i,H)
     |false=>(alloc (.map [] [] []) H).bind fun (i,H)=> .ret (.map i,H)
   |none=> .fail
 | .lookup t x i b=>lookupV cx t (evalO e x) (evalO e i) b H
 | .mapUpdate t m k v=>match mapTy cx t with
   |some (_,et)=>(typed cx et (evalO e v)).bind fun v=>(frz cx et v H).bind fun (v,H)=>mapPut cx t (evalO e m) (evalO e k) v H
   |none=> .fail
 | .range t x=>rangeV cx t (evalO e x) H
 | .next x false=>nextV (evalO e x) H
 | .entry x=>pure (entryV (evalO e x) H)
 | .makeFunc (.func f) first captured=>match first.toList with
   | []=>(args cx e captured.toList []).bind fun vs=>match allT vs with
     |some l=> .ret (.t (.clo f l),H)
     |none=> .ret (.clo f vs,H)
   |_=> .fail
 | .makeSlice t l c=>match elemTy cx t with
   |some el=>match zeroV cx depth el,evalO e l,evalO e c with
     |some z,.t (.int _ n),.t (.int _ m)=>(zT (made cx t o.dst) z H).bind fun (z,H)=>
      .want (0≤n∧n≤m∧room m.toNat (bytesOf cx el)) (.nat m.toNat fun m=>(litN (sizeOf cx el)).bind fun s=>
       match vecMade (made cx t o.dst) z&&sameOp l c with
       |true=>(alloc (.vec s (zn m z) []) H).bind fun (i,H)=> .ret (.all i none,H)
       |false=>(alloc (.arr s (zn m z) (some 0) false) H).bind fun (i,H)=>
         match sameOp l c with
         |true=> .ret (.all i none,H)
         |false=> .nat n.toNat fun n=> .ret (.sl i 0 n none,H))
     |_,_,_=> .fail
   |none=> .fail
 | .slice t x lo hi mx=>match mx,hi with
  |some _,none=> .fail
  |_,_=>match elemTy cx t with
   |some el=>(typed cx t (evalO e x)).bind fun v=>sliceV (sizeOf cx el) v H (lo.map (evalO e)) (hi.map (evalO e)) (mx.map (evalO e))
   |none=> .fail
 | .fieldAddr t a f=>match fieldAt cx t f,evalO e a with
   |some (off,ft),.ptr id i j=>match nth H id,qd (sizeOf cx ft) 0 with
     |some (.one _ _ _),false=>(litN (j+off)).bind fun j=> .ret (.ptr id i j,H)
     |some (.arr _ _ _ _),false=>(litN (j+off)).bind fun j=> .ret (.ptr id i j,H)
     |some (.vec _ _ _),false=>(litN (j+off)).bind fun j=> .ret (.ptr id i j,H)
     |_,_=> .fail
   |some (off,ft),.t (.ip s x j)=>match qd (sizeOf cx ft) 0 with
    |true=> .fail
    |false=>(litN (j+off)).bind fun j=> .ret (.t (.ip s x j),H)
   |some (off,ft),.t (.pin (.pointer (some ⟨b,j,none⟩)))=>match qd (sizeOf cx ft) 0 with
    |true=> .fail
    |false=>(litN (j+off)).bind fun j=> .ret (.t (.pin (.pointer (some ⟨b,j,none⟩))),H)
   |_,_=> .fail
 | .field t x f=>match fieldAt cx t f with
   |some (off,ft)=>match evalO e x with
     | .t (.agg vs)=>pure (partV cx ft (vs.map .t) off)
     | .agg vs=>pure (partV cx ft vs off)
     |_=> .fail
   |none=> .fail
 | .indexAddr t x i=>match elemTy cx t with
   |some el=>(typed cx t (evalO e x)).bind fun v=>pure (indexV (sizeOf cx el) v (evalO e i) H)
   |none=> .fail
 | .extract x i=>match evalO e x with
   | .tup vs=>match nth vs i with
     |some v=>pure (force v)
     |none=> .fail
   |_=> .fail
 | .call c=>match c.callee with
   | .builtin b=>(args cx e c.args.toList c.argTypes.toList).bind fun vs=>builtinV cx b c.argTypes.toList vs H
   | .value (.func f)=>match exAt cx.ex f with
     |some x=>(args cx e c.args.toList c.argTypes.toList).bind fun vs=>extV cx x vs H
     |none=>(args cx e c.args.toList c.argTypes.toList).bind fun vs=>(callF cx (kept cx e f o.dst) f vs H).bind fun (v,H)=>pooled (made cx o.type o.dst) v H
   | .value f=>match evalO e f with
     | .t (.clo f cs)=> .want (isFnB cx f=true) ((args cx e c.args.toList c.argTypes.toList).bind fun vs=>pureCall f vs cs H)
     | .clo f cs=>(args cx e c.args.toList c.argTypes.toList).bind fun vs=>callF cx none f (vs++cs) H
     |_=> .fail
   |_=> .fail
 |_=> .fail
def put (dst:Option Nat) (v:V) (e:Env):Env:=match dst with
 |some d=>(d,v)::e
 |none=>e
def dstOf (all:List Oper) (j:Nat):Option Nat:=match nth all j with
 |some o=>o.dst
 |none=>none
noncomputable def stepQ (cx:Cx) (all:List Oper) (o:Oper) (e:Env) (H:Heap):Q (Env×Heap):=match o.guard with
 |none=>(opQ cx o e H).bind fun (v,H)=> .ret (put o.dst v e,H)
 |some (j,w)=>match dstOf all j with
  |some g=>match look e g with
   | .t (.bool b)=> .test b fun b=>match b==w with
    |true=>(opQ cx o ((g,.t (.bool b))::e) H).bind fun (v,H)=> .ret (put o.dst v ((g,.t (.bool b))::e),H)
    |false=> .ret (put o.dst (.tup []) ((g,.t (.bool b))::e),H)
   | .tup []=> .ret (put o.dst (.tup []) e,H)
   |_=> .fail
  |none=> .fail
noncomputable def runOps (cx:Cx) (all:List Oper):List Oper→Env→Heap→Q (Env×Heap)
 | [],e,H=> .ret (e,H)
 |o::r,e,H=>(stepQ cx all o e H).bind fun (e,H)=>runOps cx all r e H
noncomputable def chkQ (cx:Cx) (all:List Oper):List Nat→Env→Heap→Q (Env×Heap)
 | [],e,H=> .ret (e,H)
 |p::r,e,H=>match nth all p with
  |some o=>match o.dst with
   |some d=>(opQ cx o e H).bind fun (v,H)=> .want (v.eqB (look e d)=true) (chkQ cx all r e H)
   |none=> .fail
  |none=> .fail
noncomputable def ordQ (cx:Cx) (all:List Oper):Ord→Env→Heap→Q (Env×Heap)
 | .done,e,H=> .ret (e,H)
 | .one i r,e,H=>match nth all i with
  |some o=>(stepQ cx all o e H).bind fun (e,H)=>ordQ cx all r e H
  |none=> .fail
 | .two i r j s,e,H=>match nth all i,nth all j with
  |some o,some p=> .both ((stepQ cx all o e H).bind fun (e,H)=>ordQ cx all r e H) ((stepQ cx all p e H).bind fun (e,H)=>ordQ cx all s e H)
  |_,_=> .fail
 | .alt i r s,e,H=>match nth all i with
  |some o=> .both ((stepQ cx all o e H).bind fun (e,H)=>ordQ cx all r e H) (ordQ cx all s e H)
  |none=> .fail
 | .hold i r,e,H=>match nth all i with
  |some o=>(stepQ cx all o e H).bind fun (e,H)=>ordQ cx all r e H
  |none=> .fail
 | .keep i ps r,e,H=>match nth all i with
  |some o=>(stepQ cx all o e H).bind fun (e,H)=>(chkQ cx all ps e H).bind fun (e,H)=>ordQ cx all r e H
  |none=> .fail
def drawAt:List (Nat×Ord)→Nat→Option Ord
 | [],_=>none
 |(i,o)::r,n=>match qd i n with|true=>some o|false=>drawAt r n
def subAt (c:Code):List Nat→Option Code
 | []=>some c
 |d::p=>match subAt c p with
  |some (.seq a b)=>match d with|0=>some a|_=>some b
  |some (.cond _ a b)=>match d with|0=>some a|_=>some b
  |some (.block _ a)=>some a
  |some (.loop a)=>some a
  |_=>none
def eqL:List Nat→List Nat→Bool
 | [],[]=>true
 |x::a,y::b=>match qd x y with|true=>eqL a b|false=>false
 |_,_=>false
def liveAt:List (List Nat×List Nat)→List Nat→Option (List Nat)
 | [],_=>none
 |(q,l)::r,p=>match eqL q p with|true=>some l|false=>liveAt r p
def ownAt (fi:FI) (p:List Nat):List Nat:=match liveAt fi.own p with
 |some l=>l
 |none=> []
def looks (e:Env):List Nat→Q (List V)
 | []=> .ret []
 |t::r=>(force (look e t)).bind fun v=>(looks e r).bind fun l=> .ret (v::l)
def zipE:List Nat→List V→Env
 |t::ts,v::vs=>(t,v)::zipE ts vs
 |_,_=> []
def plainIn:List V→Bool
 | []=>true
 | .t x::r=>x.flat&&plainIn r
 | .fit _ []::r=>plainIn r
 | .nil::r=>plainIn r
 |_=>false
noncomputable def lendQ (keep:Nat) (ks is os:List Nat) (run:Env→Heap→Q (Ex×Env×Heap)) (e:Env) (H:Heap):Q (Env×Heap):=
 (looks e ks).bind fun vs=>(looks e is).bind fun zs=>match plainIn zs with
  |true=>(gc keep vs H).bind fun g=>
   lendIn g.H g.vs fun az us=>(run (zipE (ks++is) (az++zs)) []).bind fun (x,e1,H1)=>match x with
    | .normal=>(looks e1 ks).bind fun bz=>lendOut us bz ((looks e1 os).bind fun ws=>(gc 0 ws H1).bind fun g2=>
     lendRes g.H.length g2.vs g2.H fun ws H2=> .ret (zipE (ks++os) (g.vs++ws),g.H++H2))
    |_=> .fail
  |false=> .fail
noncomputable def exec (cx:Cx) (f:Nat) (fi:FI):Nat→List Nat→Code→Env→Heap→Q (Ex×Env×Heap)
 |_,_,.skip,e,H=> .ret (.normal,e,H)
 |_,_,.region id ops draw,e,H=>match draw with
  |false=>(runOps cx ops.toList ops.toList e H).bind fun (e,H)=> .ret (.normal,e,H)
  |true=>match drawAt fi.draws id with
   |some d=>(ordQ cx ops.toList d e H).bind fun (e,H)=> .ret (.normal,e,H)
   |none=> .fail
 |keep,p,.seq a b,e,H=>match lendAt cx.lends eqL f p with
  |none=>(exec cx f fi keep (0::p) a e H).bind fun (x,e,H)=>match x with
   | .normal=>exec cx f fi keep (1::p) b e H
   |x=> .ret (x,e,H)
  |some (ks,is,os)=>match b with
   | .seq (.seq c d) b2=>(lendQ keep ks is os (fun e H=>(exec cx f fi 0 (0::p) a e H).bind fun (x,e,H)=>match x with
    | .normal=>exec cx f fi 0 (0::0::1::p) c e H
    |x=> .ret (x,e,H)) e H).bind fun (e,H)=>(exec cx f fi keep (1::0::1::p) d e H).bind fun (x,e,H)=>match x with
     | .normal=>exec cx f fi keep (1::1::p) b2 e H
     |x=> .ret (x,e,H)
   |_=> .fail
 |keep,p,.cond c a b,e,H=>match evalO e c with
  | .t (.bool t)=> .test t fun t=>match t with
   |true=>exec cx f fi keep (0::p) a e H
   |false=>exec cx f fi keep (1::p) b e H
  |_=> .fail
 |keep,p,.block id c,e,H=>(exec cx f fi keep (0::p) c e H).bind fun (x,e,H)=>match x with
  | .exit i=>match qd i id with
   |true=> .ret (.normal,e,H)
   |false=> .ret (.exit i,e,H)
  |x=> .ret (x,e,H)
 |keep,p,.loop _,e,H=>match liveAt fi.live p with
  |some live=>(looks e live).bind fun vs=>(ownL (ownAt fi p) live vs H).bind fun (vs,H)=>(foldR fi.fold keep vs H).bind fun H=>(gc keep vs H).bind fun g=> .ask (.loop f p keep g.vs g.H) fun r=> .ret (r.e,zipE live r.vs,r.H)
  |none=> .fail
 |_,_,.exit id,e,H=> .ret (.exit id,e,H)
 |_,_,.ret,e,H=> .ret (.ret,e,H)
 |_,_,_,_,_=> .fail
def resV (cx:Cx) (e:Env) (H:Heap):List RV→Q (List V)
 | []=> .ret []
 | .tmp t::r=>(force (look e t)).bind fun v=>(resV cx e H r).bind fun l=> .ret (v::l)
 | .cell a t::r=>(loadAt cx t (look e a) H).bind fun v=>(resV cx e H r).bind fun l=> .ret (v::l)
def pureRes (vs:List V) (H':Heap):Q Res:=(forceN (reach H' 200 (idss vs) [])).bind fun l=>(fzArgs l H' vs).bind fun ts=> .ret ⟨.ret,ts.map .t,[]⟩
def ioRes (fi:FI) (n:Nat) (vs:List V) (H':Heap):Q Res:=(tidyR fi.tidy vs H').bind fun (vs,H')=>(foldR fi.fold n vs (killR fi.tidy n H')).bind fun H'=>(gc n vs H').bind fun g=> .ret ⟨.ret,g.vs,g.H⟩
noncomputable def body (cx:Cx):Task→Q Res
 | .call f az H=>match cx.fn.get f with
  |some (some fi)=>(exec cx f fi H.length [] fi.code (zipE (upto 0 az.length) az) H).bind fun (x,e,H')=>match x with
   | .exit _=> .fail
   |_=>(resV cx e H' fi.res).bind fun vs=>match fi.mode with
    | .pure=>match H with
     | []=>pureRes vs H'
     |_=> .fail
    | .fresh=>match H with
     | []=>(tidyR fi.tidy vs H').bind fun (vs,H')=>(foldR fi.fold 0 vs H').bind fun H'=>(gc 0 vs (noPool H')).bind fun g=> .ret ⟨.ret,g.vs,g.H⟩
     |_=> .fail
    | .inout=>ioRes fi H.length vs H'
    | .both=>match H with
     | []=>pureRes vs H'
     |_=>ioRes fi H.length vs H'
  |_=> .fail
 | .loop f p keep vs H=>match cx.fn.get f with
  |some (some fi)=>match subAt fi.code p,liveAt fi.live p with
   |some (.loop c),some live=>(exec cx f fi keep (0::p) c (zipE live vs) H).bind fun (x,e,H)=>(looks e live).bind fun vs=>(ownL (ownAt fi p) live vs H).bind fun (vs,H)=>(foldR fi.fold keep vs H).bind fun H=>(gc keep vs H).bind fun g=>match x with
    | .normal=> .ask (.loop f p keep g.vs g.H) fun r=> .ret r
    |x=> .ret ⟨x,g.vs,g.H⟩
   |_,_=> .fail
  |_=> .fail
theorem AiO {α:Type} {S S':Task→(Res→Prop)→Prop} (h: ∀t R,S t R→S' t R) (q:Q α): ∀R,wpQ S q R→wpQ S' q R:=by
 induction q with
 |fail=>exact fun _ h=>h
 |ret a=>exact fun _ h=>h
 |ask t k ih=>exact fun R ⟨R',h1,h0,h2⟩=>⟨R',h _ _ h1,h0,fun x hx=>ih x R (h2 x hx)⟩
 |test b k ih=>exact fun R hq=>ih _ R hq
 |num kd n k ih=>exact fun R hq=>ih _ R hq
 |get xs i k ih=>exact fun R ⟨x,h1,h0,h2⟩=>⟨x,h1,h0,ih x R h2⟩
 |norm x k ih=>exact fun R hq=>ih _ R hq
 |nat n k ih=>exact fun R hq=>ih _ R hq
 |cap lo k ih=>exact fun R hq c hc=>ih c R (hq c hc)
 |new no k ih=>exact fun R hq c hc=>ih c R (hq c hc)
 |want p q ih=>exact fun R ⟨h1,h2⟩=>⟨h1,ih R h2⟩
 |both p q ih1 ih2=>exact fun R ⟨h1,h2⟩=>⟨ih1 R h1,ih2 R h2⟩
 |find kd n ks k ih=>exact fun R ⟨h1,h2⟩=>⟨h1,ih _ R h2⟩
 |any k ih=>exact fun R hq v=>ih v R (hq v)
end Go.Eva
namespace Go.Eva
theorem Apz {a b:IntKind} (h:eqK a b=true):a=b:=by cases a<;>cases b<;>first|rfl|simp [eqK] at h
theorem Apy {a b:Int} (h:eqI a b=true):a=b:=by
 cases a<;>cases b<;>simp [eqI] at h<;>rw [h]
theorem Ail {a b:Bool} (h:eqBo a b=true):a=b:=by cases a<;>cases b<;>first|rfl|simp [eqBo] at h
theorem Anj {a b:Option Nat} (h:eqO a b=true):a=b:=by
 cases a<;>cases b<;>simp [eqO] at h<;>first|rfl|rw [h]
theorem AkV: ∀ {a b:List Nat},eqN a b=true→a=b
 | [],[],_=>rfl
 |x::a,y::b,h=>by
  unfold eqN at h;split at h
  ·rename_i hb;rw [zp hb,AkV h]
  ·contradiction
 | [],_::_,h=>by simp [eqN] at h
 |_::_,[],h=>by simp [eqN] at h
theorem Anh: ∀ {a b:List UInt8},eqB8 a b=true→a=b
 | [],[],_=>rfl
 |x::a,y::b,h=>by
  unfold eqB8 at h;split at h
  ·rename_i hb;rw [UInt8.toNat_inj.1 (zp hb),Anh h]
  ·contradiction
 | [],_::_,h=>by simp [eqB8] at h
 |_::_,[],h=>by simp [eqB8] at h
mutual
theorem T.eqB_ok: ∀ {a b:T},T.eqB a b=true→a=b
 |a,b,h=>by
  unfold T.eqB at h;split at h
  ·rfl
  ·split at h
   ·rename_i hk;rw [Apz hk,Apy h]
   ·contradiction
  ·rw [Ail h]
  ·rename_i a b;have:=Anh h;obtain ⟨⟨a⟩⟩:=a;obtain ⟨⟨b⟩⟩:=b;simp at this;rw [this]
  ·rw [eqTs_ok h]
  ·split at h
   ·rename_i hs;rw [zp hs,eqTs_ok h]
   ·contradiction
  ·split at h
   ·rename_i hs;simp only [zf] at hs;rw [zp hs.1,zp hs.2,T.eqB_ok h]
   ·contradiction
  ·split at h
   ·rename_i hs;rw [zp hs,eqTs_ok h]
   ·contradiction
  ·rfl
  ·rfl
  ·rfl
  ·rfl
  ·split at h
   ·rename_i hs;rw [eqTs_ok hs,eqTs_ok h]
   ·contradiction
  ·split at h
   ·rename_i hs;rw [zp hs,T.eqB_ok h]
   ·contradiction
  ·split at h
   ·rename_i hs;rw [zp hs,eqTs_ok h]
   ·contradiction
  ·split at h
   ·rename_i hs;rw [zp hs,eqTs_ok h]
   ·contradiction
  ·split at h
   ·rename_i hs;rw [eqTs_ok hs,eqTs_ok h]
   ·contradiction
  ·contradiction
theorem eqTs_ok: ∀ {a b:List T},eqTs a b=true→a=b
 | [],[],_=>rfl
 |x::a,y::b,h=>by
  unfold eqTs at h;split at h
  ·rename_i hb;rw [T.eqB_ok hb,eqTs_ok h]
  ·contradiction
 | [],_::_,h=>by simp [eqTs] at h
 |_::_,[],h=>by simp [eqTs] at h
end
mutual
theorem V.eqB_ok: ∀ {a b:V},V.eqB a b=true→a=b
 |a,b,h=>by
  unfold V.eqB at h;split at h
  ·rw [T.eqB_ok h]
  ·rfl
  ·split at h
   ·rename_i hs;rw [zp hs,eqTs_ok h]
   ·contradiction
  ·split at h
   ·rename_i hs;rw [zp hs,Anj h]
   ·contradiction
  ·split at h
   ·rename_i hs;simp only [zf] at hs;rw [zp hs.1.1,zp hs.1.2,zp hs.2,Anj h]
   ·contradiction
  ·simp only [zf] at h;rw [zp h.1.1,zp h.1.2,zp h.2]
  ·split at h
   ·rename_i hs;rw [zp hs,eqVs_ok h]
   ·contradiction
  ·rw [eqVs_ok h]
  ·rw [eqVs_ok h]
  ·rw [zp h]
  ·contradiction
theorem eqVs_ok: ∀ {a b:List V},eqVs a b=true→a=b
 | [],[],_=>rfl
 |x::a,y::b,h=>by
  unfold eqVs at h;split at h
  ·rename_i hb;rw [V.eqB_ok hb,eqVs_ok h]
  ·contradiction
 | [],_::_,h=>by simp [eqVs] at h
 |_::_,[],h=>by simp [eqVs] at h
end
theorem ApP {a b:IntKind}:eqK a b=true↔a=b:=⟨Apz,fun h=>by subst h;cases a<;>rfl⟩
theorem ApO {a b:Int}:eqI a b=true↔a=b:=⟨Apy,fun h=>by subst h;cases a<;>simp [eqI]⟩
theorem AoE {a b:Bool}:eqBo a b=true↔a=b:=⟨Ail,fun h=>by subst h;cases a<;>rfl⟩
mutual
theorem T.eqF_ok: ∀ {x y:T} {b:Bool},T.eqF x y=some b→(b=true↔x=y)
 |x,y,b,h=>by
  unfold T.eqF at h;split at h
  ·simp only [j0] at h;subst h;rw [zf,ApP,ApO,T.int.injEq]
  ·simp only [j0] at h;subst h;rw [AoE,T.bool.injEq]
  ·rw [T.agg.injEq];exact eqFs_ok h
  ·contradiction
theorem eqFs_ok: ∀ {x y:List T} {b:Bool},eqFs x y=some b→(b=true↔x=y)
 |x,y,b,h=>by
  unfold eqFs at h;split at h
  ·simp only [j0] at h;subst h;simp
  ·split at h
   ·rename_i p q hp hq;simp only [j0] at h;subst h;rw [zf,T.eqF_ok hp,eqFs_ok hq,List.cons.injEq]
   ·contradiction
  ·contradiction
end
theorem Ael {x y:T}:teq x y=true↔x=y:=by
 unfold teq;split
 ·rename_i b h;exact T.eqF_ok h
 ·simp
theorem AeP {x y:T}:teq x y=false↔x≠y:=by
 rw [←Bool.not_eq_true,Ael]
end Go.Eva
namespace Go.Eva
open Go.RowKit
theorem Aae {α:Type} (l:List α) (i:Nat):nth l i=l[i]?:=by
 induction l generalizing i with
 |nil=>rfl
 |cons x r ih=>cases i with
  |zero=>rfl
  |succ n=>simpa [nth] using ih n
def EntOk (es:Array MapEntry) (clock:Nat):Prop:=(∀(i:Nat) e,es[i]?=some e→e.born<clock)∧ ∀(i j:Nat) e e',es[i]?=some e→es[j]?=some e'→e.born=e'.born→i=j
inductive TR (F:Nat→Prop) (w:World):T→Value→Prop
 |any (v:Value):TR F w .any v
 |int (k:IntKind) (n:Int):TR F w (.int k n) (.int k n)
 |bool (b:Bool):TR F w (.bool b) (.bool b)
 |str (s:ByteArray):TR F w (.str s) (.string s)
 |agg (vs:List T) (cs:Array Value) (hl:vs.length=cs.size) (h1: ∀(i:Nat) (c:Value),cs[i]?=some c→c.oneCell'=true)
  (hc: ∀(i:Nat) x (c:Value),vs[i]?=some x→cs[i]?=some c→TR F w x c):TR F w (.agg vs) (.agg cs)
 |slN (sz:Nat) (a:Option Addr) (cap:Nat):TR F w (.sl sz []) (.slice a 0 cap)
 |slC (sz:Nat) (xs:List T) (b o cap:Nat) (c:Nat→Nat→Value) (hn:xs≠ []) (hcap:xs.length≤cap) (hF:F b)
  (hc: ∀i j,i<xs.length→j<sz→w.cell? ⟨b,o+i*sz+j,none⟩=some (c i j)∧(c i j).oneCell'=true)
  (hl: ∀(i:Nat) (x:T),xs[i]?=some x→x≠ .any→x.cells.length=sz)
  (hr: ∀(i j:Nat) (x t:T),xs[i]?=some x→x≠ .any→x.cells[j]?=some t→TR F w t (c i j)):TR F w (.sl sz xs) (.slice (some ⟨b,o,none⟩) xs.length cap)
 |ip (sz:Nat) (x:T) (off b o:Nat) (c:Nat→Value) (hF:F b) (hx:x≠ .any)
  (hc: ∀j,j<sz→w.cell? ⟨b,o+j,none⟩=some (c j)∧(c j).oneCell'=true)
  (hl:x.cells.length=sz)
  (hr: ∀(j:Nat) (t:T),x.cells[j]?=some t→TR F w t (c j)):TR F w (.ip sz x off) (.pointer (some ⟨b,o+off,none⟩))
 |clo (f:Nat) (cs:List T) (vs:Array Value) (hl:cs.length=vs.size) (hc: ∀(i:Nat) x (v:Value),cs[i]?=some x→vs[i]?=some v→TR F w x v):
  TR F w (.clo f cs) (.func (.func f) #[] vs)
 |nilp:TR F w .nilp (.pointer none)
 |nilf:TR F w .nilf .nilFunc
 |nilm:TR F w .nilm (.map none)
 |nul (a:Option Addr):TR F w .nul (.slice a 0 0)
 |pin (v:Value) (h:v.oneCell'=true):TR F w (.pin v) v
 |mp (ks vs:List T) (b:Nat) (es:Array MapEntry) (clock:Nat) (hF:F b) (hb:w.heap[b]?=some (.map es clock)) (hk:es.size=ks.length) (hv:vs.length=ks.length) (he:EntOk es clock)
  (h1: ∀(i:Nat) x (e:MapEntry),ks[i]?=some x→es[i]?=some e→TR F w x e.key) (h2: ∀(i:Nat) x (e:MapEntry),vs[i]?=some x→es[i]?=some e→TR F w x e.val) (h3: ∀(i:Nat) x,vs[i]?=some x→x≠ .any):TR F w (.mp ks vs) (.map (some b))
theorem Agf {w w':World} {b o:Nat} (h:w'.heap[b]?=w.heap[b]?):w'.cell? ⟨b,o,none⟩=w.cell? ⟨b,o,none⟩:=
 World.cell?_of_block (w:=w) (a:=⟨b,o,none⟩) h
theorem TR.mono {F F':Nat→Prop} {w w':World} (hF: ∀b,F b→F' b) (hw: ∀b,F b→w'.heap[b]?=w.heap[b]?) {x:T} {v:Value} (h:TR F w x v):TR F' w' x v:=by
 induction h with
 |any v=>exact .any v
 |int k n=>exact .int k n
 |bool b=>exact .bool b
 |str s=>exact .str s
 |agg vs cs hl h1 hc ih=>exact .agg vs cs hl h1 ih
 |slN sz a cap=>exact .slN sz a cap
 |slC sz xs b o cap c hn hcap hFb hc hl hr ih=>
  exact .slC sz xs b o cap c hn hcap (hF _ hFb) (fun i j hi hj=>by rw [Agf (hw b hFb)];exact hc i j hi hj) hl ih
 |ip sz x off b o c hFb hx hc hl hr ih=>
  exact .ip sz x off b o c (hF _ hFb) hx (fun j hj=>by rw [Agf (hw b hFb)];exact hc j hj) hl ih
 |clo f cs vs hl hc ih=>exact .clo f cs vs hl ih
 |nilp=>exact .nilp
 |nilf=>exact .nilf
 |nilm=>exact .nilm
 |nul a=>exact .nul a
 |pin v h=>exact .pin v h
 |mp ks vs b es clock hFb hb hk hv he h1 h2 h3 ih1 ih2=>exact .mp ks vs b es clock (hF b hFb) (by rw [hw b hFb];exact hb) hk hv he ih1 ih2 h3
theorem TR.flat {F F':Nat→Prop} {w w':World} {x:T} {v:Value} (h:TR F w x v) (hf:x.flat=true):TR F' w' x v:=by
 cases h<;>simp [T.flat] at hf
 ·exact .int _ _
 ·exact .bool _
 ·exact .str _
structure Io where
 f:Nat→Option Nat
 hid:Nat→List Nat
instance:CoeFun Io (fun _=>Nat→Option Nat):=⟨Io.f⟩
def blk (w:World) (b:Nat):Nat:=match w.heap[b]? with
 |some (.cells c _ _)=>c.size
 |_=>0
theorem Apw {w w':World} {b:Nat} (h:w'.heap[b]?=w.heap[b]?):blk w' b=blk w b:=by unfold blk;rw [h]
def SlAt (ι:Io) (w:World) (id sz m off:Nat) (n lim:Option Nat) (v:Value):Prop:= ∃a cap,v= .slice a (n.getD m) cap∧n.getD m≤cap∧off+n.getD m≤m∧(match ι id with
 |none=>cap=0
 |some b=>(cap=0∨a=some ⟨b,off*sz,none⟩)∧(match lim with
  |some l=>off+cap=l∧l*sz≤blk w b
  |none=>(off+cap)*sz=blk w b))
def OwnSl (ι:Io) (w:World) (H:Heap) (id off:Nat) (n:Option Nat) (lim:Option Nat) (v:Value):Prop:=match H[id]? with
 |some .dead=>True
 |some (.arr sz xs _ _)=>SlAt ι w id sz xs.length off n lim v
 |some (.vec sz xs _)=>SlAt ι w id sz xs.length off n lim v
 |_=>False
def OwnPtr (ι:Io) (H:Heap) (id i j:Nat) (v:Value):Prop:=match H[id]? with
 |some .dead=>True
 |some (.one _ _ _)=> ∃b,ι id=some b∧v= .pointer (some ⟨b,j,none⟩)
 |some (.arr sz xs _ _)=>i<xs.length∧ ∃b,ι id=some b∧v= .pointer (some ⟨b,i*sz+j,none⟩)
 |some (.vec sz xs _)=>i<xs.length∧ ∃b,ι id=some b∧v= .pointer (some ⟨b,i*sz+j,none⟩)
 |some (.iter _ _ _)=>i=0∧j=0∧ ∃b,ι id=some b∧v= .pointer (some ⟨b,0,none⟩)
 |some (.hand _)=>i=0∧j=0∧ ∃b,ι id=some b∧v= .pointer (some ⟨b,0,none⟩)
 |some (.rng _ _ _ _ _)=>False
 |some (.pool _ _)=>False
 |some (.map _ _ _)=>False
 |none=>False
def OwnMap (ι:Io) (H:Heap) (id:Nat) (v:Value):Prop:=match H[id]? with
 |some .dead=>True
 |some (.map _ _ _)=> ∃b,ι id=some b∧v= .map (some b)
 |some (.rng _ _ _ _ _)=> ∃b,ι id=some b∧v= .map (some b)
 |_=>False
inductive VR (ι:Io) (F:Nat→Prop) (w:World) (H:Heap):V→Value→Prop
 |t (x:T) (v:Value) (h:TR F w x v):VR ι F w H (.t x) v
 |nil:VR ι F w H .nil (.slice none 0 0)
 |fit (sz:Nat) (xs:List T) (a:Option Addr) (h:TR F w (.sl sz xs) (.slice a xs.length xs.length)):VR ι F w H (.fit sz xs) (.slice a xs.length xs.length)
 |all (id:Nat) (lim:Option Nat) (v:Value) (h:OwnSl ι w H id 0 none lim v):VR ι F w H (.all id lim) v
 |sl (id off len:Nat) (lim:Option Nat) (v:Value) (h:OwnSl ι w H id off (some len) lim v):VR ι F w H (.sl id off len lim) v
 |ptr (id i j:Nat) (v:Value) (h:OwnPtr ι H id i j v):VR ι F w H (.ptr id i j) v
 |clo (f:Nat) (cs:List V) (vs:Array Value) (hl:cs.length=vs.size) (hc: ∀(i:Nat) x (v:Value),cs[i]?=some x→vs[i]?=some v→VR ι F w H x v):
  VR ι F w H (.clo f cs) (.func (.func f) #[] vs)
 |agg (vs:List V) (cs:Array Value) (hl:vs.length=cs.size) (h1: ∀(i:Nat) (c:Value),cs[i]?=some c→c.oneCell'=true)
  (hc: ∀(i:Nat) x (c:Value),vs[i]?=some x→cs[i]?=some c→VR ι F w H x c):VR ι F w H (.agg vs) (.agg cs)
 |tup (vs:List V) (cs:Array Value) (hl:vs.length=cs.size) (hc: ∀(i:Nat) x (c:Value),vs[i]?=some x→cs[i]?=some c→VR ι F w H x c):VR ι F w H (.tup vs) (.tuple cs)
 |map (id:Nat) (v:Value) (h:OwnMap ι H id v):VR ι F w H (.map id) v
 |also (v:Value) (x:T) (h1:v.oneCell'=true) (h:TR F w x v):VR ι F w H (.also v x) v
def CellsR (F:Nat→Prop) (w:World) (b sz:Nat) (xs:List T):Prop:= ∃c:Nat→Nat→Value,
 (∀i j,i<xs.length→j<sz→w.cell? ⟨b,i*sz+j,none⟩=some (c i j)∧(c i j).oneCell'=true)∧
 (∀(i:Nat) (x:T),xs[i]?=some x→x≠ .any→x.cells.length=sz)∧
 (∀(i j:Nat) (x t:T),xs[i]?=some x→x≠ .any→x.cells[j]?=some t→TR F w t (c i j))
inductive CR (F:Nat→Prop) (w:World):T→Value→List Nat→Prop
 |tr (x:T) (v:Value) (h:TR F w x v):CR F w x v []
 |box (sz:Nat) (x:T) (b:Nat) (cs:Array Value) (e:TypeId) (fp:Nat→List Nat) (hx:x≠ .any) (hl:x.cells.length=sz) (hb:w.heap[b]?=some (.cells cs e (0,0))) (hs:cs.size=sz)
  (h1: ∀(i:Nat) (c:Value),cs[i]?=some c→c.oneCell'=true) (hc: ∀(j:Nat) t (c:Value),x.cells[j]?=some t→cs[j]?=some c→CR F w t c (fp j)):
  CR F w (.box sz x) (.pointer (some ⟨b,0,none⟩)) (b::(jq sz).flatMap fp)
 |row0 (sz:Nat) (a:Option Addr) (h0:0<sz):CR F w (.row sz []) (.slice a 0 0) []
 |row (sz:Nat) (xs:List T) (b:Nat) (cs:Array Value) (e:TypeId) (a:Option Addr) (cap:Nat) (h0:0<sz) (hcap:xs.length≤cap) (ha:cap=0∨a=some ⟨b,0,none⟩) (hk:cap*sz=cs.size) (hb:w.heap[b]?=some (.cells cs e (0,0)))
  (h1: ∀(i:Nat) (c:Value),cs[i]?=some c→c.oneCell'=true) (hc:CellsR F w b sz xs):CR F w (.row sz xs) (.slice a xs.length cap) [b]
 |vrow0 (sz:Nat) (a:Option Addr) (h0:0<sz):CR F w (.vrow sz []) (.slice a 0 0) []
 |vrow (sz:Nat) (xs:List T) (b:Nat) (cs:Array Value) (e:TypeId) (a:Option Addr) (cap:Nat) (fp:Nat→Nat→List Nat) (h0:0<sz) (hcap:xs.length≤cap) (ha:cap=0∨a=some ⟨b,0,none⟩) (hk:cap*sz=cs.size) (hb:w.heap[b]?=some (.cells cs e (0,0)))
  (h1: ∀(i:Nat) (c:Value),cs[i]?=some c→c.oneCell'=true) (hl: ∀(i:Nat) (x:T),xs[i]?=some x→x≠ .any∧x.cells.length=sz)
  (hc: ∀(i j:Nat) (x t:T) (c:Value),xs[i]?=some x→x.cells[j]?=some t→cs[i*sz+j]?=some c→CR F w t c (fp i j)):
  CR F w (.vrow sz xs) (.slice a xs.length cap) (b::(jq xs.length).flatMap fun i=>(jq sz).flatMap (fp i))
 |dict (ks xs:List T) (b:Nat) (es:Array MapEntry) (clock:Nat) (fp:Nat→List Nat) (hb:w.heap[b]?=some (.map es clock)) (hk:es.size=ks.length) (hv:xs.length=ks.length) (he:EntOk es clock)
  (h1: ∀(i:Nat) x (e:MapEntry),ks[i]?=some x→es[i]?=some e→TR F w x e.key) (h3: ∀(i:Nat) x,xs[i]?=some x→x≠ .any)
  (h2: ∀(i:Nat) x (e:MapEntry),xs[i]?=some x→es[i]?=some e→CR F w x e.val (fp i)):CR F w (.dict ks xs) (.map (some b)) (b::(jq ks.length).flatMap fp)
inductive HC (ι:Io) (F:Nat→Prop) (w:World) (H:Heap):V→Value→List Nat→Prop
 |v (x:V) (c:Value) (h:VR ι F w H x c):HC ι F w H x c []
 |t (x:T) (c:Value) (fp:List Nat) (h:CR F w x c fp):HC ι F w H (.t x) c fp
def findP (i:Nat):List (Nat×V)→Option V
 | []=>none
 |(j,v)::r=>if i=j then some v else findP i r
def memP (ps:List (Nat×V)) (xs:List T) (i:Nat):Option V:=match findP i ps with
 |some v=>some v
 |none=>(xs[i]?).map .t
def keysP (ps:List (Nat×V)):List Nat:=ps.map xl
def Told (ps:List (Nat×V)) (n:Nat):Prop:=(keysP ps).Nodup∧ ∀i∈keysP ps,i<n
def ObR (ι:Io) (F:Nat→Prop) (w:World) (H:Heap) (id:Nat):Ob→Prop
 | .dead=>True
 | .one sz v ro=>v≠ .t .any∧v.size=sz∧(ro=true→ι.hid id= [])∧ ∃b cs e fp,ι id=some b∧w.heap[b]?=some (.cells cs e (0,0))∧cs.size=sz∧(∀(i:Nat) (c:Value),cs[i]?=some c→c.oneCell'=true)∧
  (∀(j:Nat) x (c:Value),v.cells[j]?=some x→cs[j]?=some c→HC ι F w H x c (fp j))∧ι.hid id=(jq sz).flatMap fp
 | .arr sz xs sp _=>0<sz∧ι.hid id= []∧((ι id=none∧xs= []∧ ∀k,sp=some k→k=0)∨ ∃b cs e,ι id=some b∧w.heap[b]?=some (.cells cs e (0,0))∧
  xs.length*sz≤cs.size∧(∀k,sp=some k→(xs.length+k)*sz=cs.size)∧(∃m,cs.size=m*sz)∧(∀(i:Nat) (c:Value),cs[i]?=some c→c.oneCell'=true)∧CellsR F w b sz xs)
 | .vec sz xs ps=>0<sz∧Told ps xs.length∧((ι id=none∧xs= []∧ι.hid id= [])∨ ∃b cs e,∃fp:Nat→Nat→List Nat,ι id=some b∧w.heap[b]?=some (.cells cs e (0,0))∧xs.length*sz≤cs.size∧(∃m,cs.size=m*sz)∧
  (∀(i:Nat) (c:Value),cs[i]?=some c→c.oneCell'=true)∧(∀(i:Nat) (v:V),memP ps xs i=some v→v≠ .t .any∧v.size=sz)∧
  (∀(i j:Nat) (v x:V) (c:Value),memP ps xs i=some v→v.cells[j]?=some x→cs[i*sz+j]?=some c→HC ι F w H x c (fp i j))∧ι.hid id=(jq xs.length).flatMap fun i=>(jq sz).flatMap (fp i))
 | .map ks xs ps=>xs.length=ks.length∧Told ps xs.length∧ ∃b es clock fp,ι id=some b∧w.heap[b]?=some (.map es clock)∧es.size=ks.length∧EntOk es clock∧
  (∀(i:Nat) x (e:MapEntry),ks[i]?=some x→es[i]?=some e→TR F w x e.key)∧(∀(i:Nat) (v:V),memP ps xs i=some v→v≠ .t .any)∧
  (∀(i:Nat) v (e:MapEntry),memP ps xs i=some v→es[i]?=some e→HC ι F w H v e.val (fp i))∧ι.hid id=(jq ks.length).flatMap fp
 | .iter ks vs seen=>vs.length=ks.length∧ι.hid id= []∧ ∃b m es clock,ι id=some b∧F m∧w.heap[m]?=some (.map es clock)∧es.size=ks.length∧EntOk es clock∧
  (∀(i:Nat) x (e:MapEntry),ks[i]?=some x→es[i]?=some e→TR F w x e.key)∧(∀(i:Nat) x (e:MapEntry),vs[i]?=some x→es[i]?=some e→TR F w x e.val)∧
  (∀i∈seen,i<ks.length)∧w.heap[b]?=some (.mapIter (some m) clock (seen.map fun i=>(es.getD i default).born).toArray clock)
 | .rng ks xs ps it seen=>(xs.length=ks.length∧Told ps xs.length∧it<H.length)∧ ∃b n es clock fp,ι id=some b∧w.heap[b]?=some (.map es clock)∧es.size=ks.length∧EntOk es clock∧
  (∀(i:Nat) x (e:MapEntry),ks[i]?=some x→es[i]?=some e→TR F w x e.key)∧(∀(i:Nat) (v:V),memP ps xs i=some v→v≠ .t .any)∧
  (∀(i:Nat) v (e:MapEntry),memP ps xs i=some v→es[i]?=some e→HC ι F w H v e.val (fp i))∧ι.hid id=n::(jq ks.length).flatMap fp∧
  (∀i∈seen,i<ks.length)∧w.heap[n]?=some (.mapIter (some b) clock (seen.map fun i=>(es.getD i default).born).toArray clock)∧(∀k,H[it]?=some (.hand k)→ι it=some n)
 | .hand _=>True
 | .pool bs xs=>(ι id=none∧ι.hid id=bs∧bs.length=xs.length)∧ ∀(i:Nat) (x:T) (b:Nat),xs[i]?=some x→bs[i]?=some b→(x≠ .any∧0<x.cells.length)∧ ∃cs e,w.heap[b]?=some (.cells cs e (0,0))∧cs.size=x.cells.length∧
  (∀(j:Nat) (c:Value),cs[j]?=some c→c.oneCell'=true)∧ ∀(j:Nat) t (c:Value),x.cells[j]?=some t→cs[j]?=some c→TR F w t c
def Ob.ro:Ob→Bool
 | .arr _ _ _ r=>r
 | .one _ _ r=>r
 | .vec _ _ _=>false
 | .map _ _ _=>false
 | .iter _ _ _=>false
 | .rng _ _ _ _ _=>false
 | .hand _=>true
 | .pool _ _=>false
 | .dead=>true
def Ob.isDead:Ob→Bool
 | .dead=>true
 | .hand _=>true
 |_=>false
def Ob.isMap:Ob→Bool
 | .map _ _ _=>true
 | .rng _ _ _ _ _=>true
 |_=>false
def Blk (ι:Io) (id b:Nat):Prop:=ι id=some b∨b∈ι.hid id
def Own (ι:Io) (H:Heap) (b:Nat):Prop:= ∃id ob,H[id]?=some ob∧ob.ro=false∧Blk ι id b
structure Good (ι:Io) (F:Nat→Prop) (w:World) (H:Heap):Prop where
 fin: ∀b,F b→b<w.heap.size
 obj: ∀id ob,H[id]?=some ob→ObR ι F w H id ob
 inj: ∀i j oi oj b,H[i]?=some oi→H[j]?=some oj→oi.isDead=false→oj.isDead=false→Blk ι i b→Blk ι j b→i=j
 sep: ∀b,Own ι H b→ ¬F b
 rof: ∀id ob b,H[id]?=some ob→ob.isDead=false→ob.ro=true→Blk ι id b→F b
 nd: ∀id ob,H[id]?=some ob→ob.isDead=false→(ι.hid id).Nodup∧ ∀b,ι id=some b→b∉ι.hid id
def Live (ι:Io) (H:Heap) (b:Nat):Prop:= ∃id ob,H[id]?=some ob∧ob.isDead=false∧Blk ι id b
def Like (ι ι':Io) (w w':World) (id:Nat) (o o':Ob):Prop:=o'= .dead∨(match o with
 | .dead=>o'= .dead
 | .one s _ _=>ι' id=ι id∧ ∃v' ro',o'= .one s v' ro'
 | .arr s xs _ _=>ι' id=ι id∧(∀b,ι id=some b→blk w' b=blk w b)∧ ∃xs' sp' ro',o'= .arr s xs' sp' ro'∧xs'.length=xs.length
 | .vec s xs _=>ι' id=ι id∧(∀b,ι id=some b→blk w' b=blk w b)∧ ∃xs' ps',o'= .vec s xs' ps'∧xs'.length=xs.length
 | .map _ _ _=>ι' id=ι id∧o'.isMap=true
 | .rng _ _ _ _ _=>ι' id=ι id∧o'.isMap=true
 | .hand _=>ι' id=ι id∧ ∃m',o'= .hand m'
 | .pool _ _=>ι' id=ι id∧ ∃bs' xs',o'= .pool bs' xs'
 | .iter _ _ _=>ι' id=ι id∧ ∃ks' vs' s',o'= .iter ks' vs' s')
theorem SlAt.mono {ι ι':Io} {w w':World} {id sz m off:Nat} {n lim:Option Nat} {v:Value} (h1:ι' id=ι id) (h2: ∀b,ι id=some b→blk w' b=blk w b) (h:SlAt ι w id sz m off n lim v):SlAt ι' w' id sz m off n lim v:=by
 obtain ⟨a,cap,e,h3,h4,h5⟩:=h;refine ⟨a,cap,e,h3,h4,?_⟩;rw [h1];cases hb:ι id with
 |none=>rw [hb] at h5;exact h5
 |some b=>
  rw [hb] at h5;simp only at h5⊢;rw [h2 b hb];exact h5
theorem OwnSl.mono {ι ι':Io} {w w':World} {H H':Heap} (hl: ∀id o,H[id]?=some o→ ∃o',H'[id]?=some o'∧Like ι ι' w w' id o o')
  {id off:Nat} {n lim:Option Nat} {v:Value} (h:OwnSl ι w H id off n lim v):OwnSl ι' w' H' id off n lim v:=by
 unfold OwnSl at h⊢;cases ho:H[id]? with
 |none=>simp [ho] at h
 |some o=>
  obtain ⟨o',ho',hk⟩:=hl id o ho;rw [ho'];rcases hk with rfl|hk
  ·trivial
  ·cases o with
   |dead=>simp only at hk;subst hk;trivial
   |one s v r=>simp [ho] at h
   |arr s xs sp ro=>
    simp only at hk;obtain ⟨h1,h2,xs',sp',ro',rfl,hxs⟩:=hk;rw [ho] at h;simp only at h⊢;rw [hxs];exact h.mono h1 h2
   |vec s xs ps=>
    simp only at hk;obtain ⟨h1,h2,xs',ps',rfl,hxs⟩:=hk;rw [ho] at h;simp only at h⊢;rw [hxs];exact h.mono h1 h2
   |map ks vs ps=>simp [ho] at h
   |iter ks vs s=>simp [ho] at h
   |rng ks xs ps it s=>simp [ho] at h
   |pool bs xs=>simp [ho] at h
   |hand k=>simp [ho] at h
theorem OwnPtr.mono {ι ι':Io} {w w':World} {H H':Heap} (hl: ∀id o,H[id]?=some o→ ∃o',H'[id]?=some o'∧Like ι ι' w w' id o o')
  {id i j:Nat} {v:Value} (h:OwnPtr ι H id i j v):OwnPtr ι' H' id i j v:=by
 unfold OwnPtr at h⊢;cases ho:H[id]? with
 |none=>simp [ho] at h
 |some o=>
  obtain ⟨o',ho',hk⟩:=hl id o ho;rw [ho'];rcases hk with rfl|hk
  ·trivial
  ·cases o with
   |dead=>simp only at hk;subst hk;trivial
   |one s v r=>
    simp only at hk;obtain ⟨h1,v',ro',rfl⟩:=hk;rw [ho] at h;simp only at h⊢;rw [h1];exact h
   |arr s xs sp ro=>
    simp only at hk;obtain ⟨h1,h2,xs',sp',ro',rfl,hxs⟩:=hk;rw [ho] at h;simp only at h⊢;rw [h1,hxs];exact h
   |vec s xs ps=>
    simp only at hk;obtain ⟨h1,h2,xs',ps',rfl,hxs⟩:=hk;rw [ho] at h;simp only at h⊢;rw [h1,hxs];exact h
   |map ks vs ps=>simp [ho] at h
   |iter ks vs s=>
    simp only at hk;obtain ⟨h1,ks',vs',s',rfl⟩:=hk;rw [ho] at h;simp only at h⊢;rw [h1];exact h
   |pool bs xs=>simp [ho] at h
   |rng ks xs ps it s=>simp [ho] at h
   |hand k=>
    simp only at hk;obtain ⟨h1,k',rfl⟩:=hk;rw [ho] at h;simp only at h⊢;rw [h1];exact h
theorem OwnMap.mono {ι ι':Io} {w w':World} {H H':Heap} (hl: ∀id o,H[id]?=some o→ ∃o',H'[id]?=some o'∧Like ι ι' w w' id o o')
  {id:Nat} {v:Value} (h:OwnMap ι H id v):OwnMap ι' H' id v:=by
 unfold OwnMap at h⊢;cases ho:H[id]? with
 |none=>simp [ho] at h
 |some o=>
  obtain ⟨o',ho',hk⟩:=hl id o ho;rw [ho'];rcases hk with rfl|hk
  ·trivial
  ·cases o with
   |dead=>simp only at hk;subst hk;trivial
   |map ks vs ps=>
    simp only at hk;rw [ho] at h;obtain ⟨h1,hk⟩:=hk;cases o'<;>simp only [Ob.isMap,xq] at hk<;>(simp only at h⊢;rw [h1];exact h)
   |rng ks vs ps it s=>
    simp only at hk;rw [ho] at h;obtain ⟨h1,hk⟩:=hk;cases o'<;>simp only [Ob.isMap,xq] at hk<;>(simp only at h⊢;rw [h1];exact h)
   |_=>simp [ho] at h
theorem VR.mono {ι ι':Io} {F F':Nat→Prop} {w w':World} {H H':Heap} (hF: ∀b,F b→F' b) (hw: ∀b,F b→w'.heap[b]?=w.heap[b]?)
  (hl: ∀id o,H[id]?=some o→ ∃o',H'[id]?=some o'∧Like ι ι' w w' id o o') {x:V} {v:Value} (h:VR ι F w H x v):VR ι' F' w' H' x v:=by
 induction h with
 |t x v h=>exact .t x v (h.mono hF hw)
 |nil=>exact .nil
 |fit sz xs a h=>exact .fit sz xs a (h.mono hF hw)
 |all id lim v h=>exact .all id lim v (h.mono hl)
 |sl id off len lim v h=>exact .sl id off len lim v (h.mono hl)
 |ptr id i j v h=>exact .ptr id i j v (h.mono hl)
 |clo f cs vs hn hc ih=>exact .clo f cs vs hn ih
 |agg vs cs hn h1 hc ih=>exact .agg vs cs hn h1 ih
 |tup vs cs hn hc ih=>exact .tup vs cs hn ih
 |map id v h=>exact .map id v (h.mono hl)
 |also v x h1 h=>exact .also v x h1 (h.mono hF hw)
theorem CR.mono {F F':Nat→Prop} {w w':World} (hF: ∀b,F b→F' b) (hw: ∀b,F b→w'.heap[b]?=w.heap[b]?) {x:T} {v:Value} {fp:List Nat} (h:CR F w x v fp) (hb: ∀b∈fp,w'.heap[b]?=w.heap[b]?):CR F' w' x v fp:=by
 have cells: ∀ {b sz:Nat} {xs:List T},w'.heap[b]?=w.heap[b]?→CellsR F w b sz xs→CellsR F' w' b sz xs:=by
  rintro b sz xs hb ⟨c,h1,h2,h3⟩;exact ⟨c,fun i j hi hj=>by rw [Agf hb];exact h1 i j hi hj,h2,fun i j x t hx hn ht=>(h3 i j x t hx hn ht).mono hF hw⟩
 induction h with
 |tr x v h=>exact .tr x v (h.mono hF hw)
 |box sz x b cs e fp hx hl hbb hs h1 hc ih=>
  refine .box sz x b cs e fp hx hl (by rw [hb b (by simp)];exact hbb) hs h1 fun j t c ht hcc=>ih j t c ht hcc fun b' hb'=>hb b' (qu _ (jv.2 ⟨j,?_,hb'⟩));have:=(zh.1 ht).1;simp;omega
 |row0 sz a h0=>exact .row0 sz a h0
 |row sz xs b cs e a cap h0 hcap ha hk hbb h1 hc=>exact .row sz xs b cs e a cap h0 hcap ha hk (by rw [hb b (by simp)];exact hbb) h1 (cells (hb b (by simp)) hc)
 |vrow0 sz a h0=>exact .vrow0 sz a h0
 |vrow sz xs b cs e a cap fp h0 hcap ha hk hbb h1 hl hc ih=>
  refine .vrow sz xs b cs e a cap fp h0 hcap ha hk (by rw [hb b (by simp)];exact hbb) h1 hl fun i j x t c hx ht hcc=>ih i j x t c hx ht hcc fun b' hb'=>hb b' (qu _ (jv.2 ⟨i,?_,jv.2 ⟨j,?_,hb'⟩⟩))
  ·have:=(zh.1 hx).1;simpa using this
  ·have:=(zh.1 ht).1;have:=(hl i x hx).2;simp;omega
 |dict ks xs b es clock fp hbb hk hv he h1 h3 h2 ih=>
  refine .dict ks xs b es clock fp (by rw [hb b (by simp)];exact hbb) hk hv he (fun i x e hx he=>(h1 i x e hx he).mono hF hw) h3 fun i x e hx he=>ih i x e hx he fun b' hb'=>hb b' (qu _ (jv.2 ⟨i,?_,hb'⟩));have:=(zh.1 hx).1;simp;omega
theorem CR.lt {F:Nat→Prop} {w:World} {x:T} {v:Value} {fp:List Nat} (h:CR F w x v fp): ∀b∈fp,b<w.heap.size:=by
 have at_: ∀ {b:Nat} {o:Obj},w.heap[b]?=some o→b<w.heap.size:=fun h=>(zu.1 h).1;induction h with
 |tr x v h=>simp
 |box sz x b cs e fp hx hl hbb hs h1 hc ih=>
  intro b' hb';rcases qf.1 hb' with rfl|hb'
  ·exact at_ hbb
  ·obtain ⟨j,hj,hb'⟩:=jv.1 hb';simp at hj;exact ih j _ _ (zt (by omega)) (qp (by omega)) b' hb'
 |row0=>simp
 |row sz xs b cs e a cap h0 hcap ha hk hbb h1 hc=>intro b' hb';simp at hb';subst hb';exact at_ hbb
 |vrow0=>simp
 |vrow sz xs b cs e a cap fp h0 hcap ha hk hbb h1 hl hc ih=>
  intro b' hb';rcases qf.1 hb' with rfl|hb'
  ·exact at_ hbb
  ·obtain ⟨i,hi,hb'⟩:=jv.1 hb';obtain ⟨j,hj,hb'⟩:=jv.1 hb';simp at hi hj;have hxi:xs[i]?=some xs[i]:=zt hi;have h2:=(hl i _ hxi).2;have hle:(i+1)*sz≤cap*sz:=qj sz (by omega);rw [jc,xu] at hle;exact ih i j _ _ _ hxi (zt (by omega)) (qp (by omega)) b' hb'
 |dict ks xs b es clock fp hbb hk hv he h1 h3 h2 ih=>
  intro b' hb';rcases qf.1 hb' with rfl|hb'
  ·exact at_ hbb
  ·obtain ⟨i,hi,hb'⟩:=jv.1 hb';simp at hi;exact ih i _ _ (zt (by omega)) (qp (by omega)) b' hb'
theorem HC.mono {ι ι':Io} {F F':Nat→Prop} {w w':World} {H H':Heap} (hF: ∀b,F b→F' b) (hw: ∀b,F b→w'.heap[b]?=w.heap[b]?)
  (hl: ∀id o,H[id]?=some o→ ∃o',H'[id]?=some o'∧Like ι ι' w w' id o o') {x:V} {v:Value} {fp:List Nat} (h:HC ι F w H x v fp) (hb: ∀b∈fp,w'.heap[b]?=w.heap[b]?):HC ι' F' w' H' x v fp:=by
 cases h with
 |v _ _ h=>exact .v _ _ (h.mono hF hw hl)
 |t _ _ _ h=>exact .t _ _ _ (h.mono hF hw hb)
theorem HC.lt {ι:Io} {F:Nat→Prop} {w:World} {H:Heap} {x:V} {v:Value} {fp:List Nat} (h:HC ι F w H x v fp): ∀b∈fp,b<w.heap.size:=by
 cases h with
 |v x c h=>simp
 |t x c fp h=>exact h.lt
theorem HC.open {ι:Io} {F:Nat→Prop} {w:World} {H:Heap} {x:V} {v:Value} {fp:List Nat} (h:HC ι F w H x v fp) (hs:x.shut=false):VR ι F w H x v∧fp= []:=by
 cases h with
 |v _ _ h=>exact ⟨h,rfl⟩
 |t _ _ _ h=>cases h<;>first|exact ⟨.t _ _ (by assumption),rfl⟩|simp [V.shut,T.shut] at hs
end Go.Eva
namespace Go.Eva
variable {S:Task→(Res→Prop)→Prop}
theorem Aaa {α β:Type} (q:Q α) (f:α→Q β): ∀(R:β→Prop),wpQ S (q.bind f) R→wpQ S q (fun a=>wpQ S (f a) R):=by
 induction q with
 |fail=>exact fun _ h=>h
 |ret a=>exact fun _ h=>h
 |ask t k ih=>exact fun R ⟨R',h1,h0,h2⟩=>⟨R',h1,h0,fun x hx=>ih x R (h2 x hx)⟩
 |test b k ih=>exact fun R hq=>ih _ R hq
 |num kd n k ih=>exact fun R hq=>ih _ R hq
 |get xs i k ih=>exact fun R ⟨x,h1,h0,h2⟩=>⟨x,h1,h0,ih x R h2⟩
 |norm x k ih=>exact fun R hq=>ih _ R hq
 |nat n k ih=>exact fun R hq=>ih _ R hq
 |cap lo k ih=>exact fun R hq c hc=>ih c R (hq c hc)
 |new no k ih=>exact fun R hq c hc=>ih c R (hq c hc)
 |want p q ih=>exact fun R ⟨h1,h2⟩=>⟨h1,ih R h2⟩
 |both p q ih1 ih2=>exact fun R ⟨h1,h2⟩=>⟨ih1 R h1,ih2 R h2⟩
 |find kd n ks k ih=>exact fun R ⟨h1,h2⟩=>⟨h1,ih _ R h2⟩
 |any k ih=>exact fun R hq v=>ih v R (hq v)
theorem Apv {α:Type} (q:Q α): ∀(R R':α→Prop),(∀a,R a→R' a)→wpQ S q R→wpQ S q R':=by
 induction q with
 |fail=>exact fun _ _ _ h=>h
 |ret a=>exact fun _ _ h k=>h _ k
 |ask t k ih=>exact fun R R' h ⟨R0,h1,h0,h2⟩=>⟨R0,h1,h0,fun x hx=>ih x R R' h (h2 x hx)⟩
 |test b k ih=>exact fun R R' h hq=>ih _ R R' h hq
 |num kd n k ih=>exact fun R R' h hq=>ih _ R R' h hq
 |get xs i k ih=>exact fun R R' h ⟨x,h1,h0,h2⟩=>⟨x,h1,h0,ih x R R' h h2⟩
 |norm x k ih=>exact fun R R' h hq=>ih _ R R' h hq
 |nat n k ih=>exact fun R R' h hq=>ih _ R R' h hq
 |cap lo k ih=>exact fun R R' h hq c hc=>ih c R R' h (hq c hc)
 |new no k ih=>exact fun R R' h hq c hc=>ih c R R' h (hq c hc)
 |want p q ih=>exact fun R R' h ⟨h1,h2⟩=>⟨h1,ih R R' h h2⟩
 |both p q ih1 ih2=>exact fun R R' h ⟨h1,h2⟩=>⟨ih1 R R' h h1,ih2 R R' h h2⟩
 |find kd n ks k ih=>exact fun R R' h ⟨h1,h2⟩=>⟨h1,ih _ R R' h h2⟩
 |any k ih=>exact fun R R' h hq v=>ih v R R' h (hq v)
theorem other (l:List Nat): ∃c,c∉l:=by
 have: ∃n,∀x∈l,x<n:=by
  induction l with
  |nil=>exact ⟨0,by simp⟩
  |cons a r ih=>
   obtain ⟨n,h⟩:=ih;refine ⟨max n (a+1),fun x hx=> ?_⟩;rcases qf.1 hx with rfl|hx
   ·omega
   ·have:=h x hx;omega
 obtain ⟨n,h⟩:=this;exact ⟨n,fun hn=>Nat.lt_irrefl _ (h n hn)⟩
theorem Aav {v:V} {R:V→Prop} (h:wpQ S (force v) R):R v:=by cases v<;>exact h
theorem Akb {x:T} {R:T→Prop} (h:wpQ S (forceT x) R):R x:=by cases x<;>exact h
theorem AaU {n:Nat} {R:Nat→Prop} (h:wpQ S (litN n) R):R n:=by
 unfold litN at h;split at h<;>exact h
theorem AaQ {l:List Nat} {R:List Nat→Prop} (h:wpQ S (forceN l) R):R l:=by
 induction l generalizing R with
 |nil=>exact h
 |cons x r ih=>
  have h1:=AaU (Aaa _ _ _ h);exact ih (Aaa _ _ _ h1)
theorem AkG {l:List T} {off n:Nat} {R:List T→Prop} (h:wpQ S (cutT l off n) R):R ((l.drop off).take n)∧off+n≤l.length∨(n=0∧R []):=by
 induction l generalizing off n R with
 |nil=>cases n with
  |zero=>exact .inr ⟨rfl,h⟩
  |succ n=>exact (show False from h).elim
 |cons x r ih=>cases n with
  |zero=>exact .inr ⟨rfl,by cases off<;>exact h⟩
  |succ n=>cases off with
   |zero=>
    have h1:=Akb (Aaa _ _ _ h);have h2:=Aaa _ _ _ h1;rcases ih h2 with ⟨h3,h4⟩|⟨rfl,h3⟩
    ·exact .inl ⟨by simpa using (show R _ from h3),by simp;omega⟩
    ·exact .inl ⟨by simpa using (show R _ from h3),by simp⟩
   |succ off=>
    rcases ih (off:=off) (n:=n+1) h with ⟨h3,h4⟩|⟨h3,_⟩
    ·exact .inl ⟨by simpa using h3,by simp at h4⊢;omega⟩
    ·omega
theorem Afx {l:List V} {off n:Nat} {R:List V→Prop} (h:wpQ S (cutV l off n) R):R ((l.drop off).take n)∧off+n≤l.length∨(n=0∧R []):=by
 induction l generalizing off n R with
 |nil=>cases n with
  |zero=>exact .inr ⟨rfl,h⟩
  |succ n=>exact (show False from h).elim
 |cons x r ih=>cases n with
  |zero=>exact .inr ⟨rfl,by cases off<;>exact h⟩
  |succ n=>cases off with
   |zero=>
    have h1:=Aav (Aaa _ _ _ h);have h2:=Aaa _ _ _ h1;rcases ih h2 with ⟨h3,h4⟩|⟨rfl,h3⟩
    ·exact .inl ⟨by simpa using (show R _ from h3),by simp;omega⟩
    ·exact .inl ⟨by simpa using (show R _ from h3),by simp⟩
   |succ off=>
    rcases ih (off:=off) (n:=n+1) h with ⟨h3,h4⟩|⟨h3,_⟩
    ·exact .inl ⟨by simpa using h3,by simp at h4⊢;omega⟩
    ·omega
theorem Ao6 {o:Ob}: ∀ {H:Heap} {n:Nat} {R:Nat×Heap→Prop},wpQ S (addH H o n) R→R (n+H.length,H++ [o])
 | [],n,R,h=>by
  have h1:=AaU (Aaa _ _ _ h);have h2:R (n,[o]):=h1;simpa using h2
 |x::r,n,R,h=>by
  have h1:=Ao6 (Aaa _ _ _ h);have h2:R _:=h1;have e:n+1+r.length=n+(x::r).length:=by simp;omega
  rw [e] at h2;exact h2
def RmR (lim sp:Option Nat):Rm→Prop
 | .no=>lim=none→sp=none
 | .full=>sp=some 0
 | .more k=>sp=some k∧k≠0
theorem ApE {α:Type} {lim sp:Option Nat} {g:Rm→Q α} {R:α→Prop} (h:wpQ S (spL lim sp g) R): ∃r,wpQ S (g r) R∧RmR lim sp r:=by
 unfold spL at h;split at h
 ·exact ⟨_,h,fun h=>nomatch h⟩
 ·split at h
  ·exact ⟨_,h,fun _=>rfl⟩
  ·rename_i k;by_cases hk:k=0
   ·subst hk;exact ⟨.full,h,rfl⟩
   ·simp only [wpQ,hk,decide_false] at h;exact ⟨_,h,rfl,hk⟩
theorem Aar {o:Ob} {H:Heap} {R:Nat×Heap→Prop} (h:wpQ S (alloc o H) R):R (H.length,H++ [o]):=by
 have:=Ao6 h;simpa using this
theorem Aap {o:Ob}: ∀ {H:Heap} {n:Nat} {R:Heap→Prop},wpQ S (setH H n o) R→n<H.length∧R (H.set n o)
 | [],n,R,h=>by cases n<;>exact (show False from h).elim
 |x::r,0,R,h=>⟨by simp,h⟩
 |x::r,n+1,R,h=>by
  obtain ⟨h1,h2⟩:=Aap (Aaa _ _ _ h);exact ⟨by simp;omega,h2⟩
theorem AbI {α:Type}: ∀(l:List α) (j:Nat) (ys:List α),j+ys.length≤l.length→ ∀i,(over l j ys)[i]?=if j≤i∧i<j+ys.length then ys[i-j]? else l[i]?
 |l,j,[],_,i=>by
  simp only [over,List.length_nil,Nat.add_zero];rw [if_neg (by omega)]
 | [],j,y::ys,h,i=>by simp at h
 |x::r,j+1,y::ys,h,i=>by
  simp only [over];cases i with
  |zero=>simp
  |succ i=>
   have:=AbI r j (y::ys) (by simp at h⊢;omega) i;simp only [yv,this];by_cases hc:j≤i∧i<j+(y::ys).length
   ·rw [if_pos hc,if_pos (by simp at hc⊢;omega)];congr 1;omega
   ·rw [if_neg hc,if_neg (by simp at hc⊢;omega)]
 |x::r,0,y::ys,h,i=>by
  simp only [over];cases i with
  |zero=>simp
  |succ i=>
   have:=AbI r 0 ys (by simp at h⊢;omega) i;simp only [yv,this];by_cases hc:0≤i∧i<0+ys.length
   ·rw [if_pos hc,if_pos (by simp at hc⊢;omega)];simp
   ·rw [if_neg hc,if_neg (by simp at hc⊢;omega)]
theorem Acv {α:Type}: ∀(l:List α) (j:Nat) (ys:List α),j+ys.length≤l.length→(over l j ys).length=l.length
 |l,j,[],_=>by simp [over]
 | [],j,y::ys,h=>by simp at h
 |x::r,j+1,y::ys,h=>by simp only [over,List.length_cons];rw [Acv r j (y::ys) (by simp at h⊢;omega)]
 |x::r,0,y::ys,h=>by simp only [over,List.length_cons];rw [Acv r 0 ys (by simp at h⊢;omega)]
theorem mem_iff {l:List Nat} {i:Nat}:mem l i=true↔i∈l:=by
 induction l with
 |nil=>simp [mem]
 |cons x r ih=>
  unfold mem;cases h:qd x i with
  |true=>have:=zp h;simp [this]
  |false=>have:=pd h;simp [ih];intro e;exact absurd e.symm this
theorem Ab9: ∀ {vs:List V} {l:List T},allT vs=some l→vs=l.map .t
 | [],l,h=>by simp [allT] at h;subst h;rfl
 |v::r,l,h=>by
  cases v<;>simp only [allT] at h<;>try contradiction
  split at h
  ·rename_i l' hl';simp at h;subst h;rw [Ab9 hl'];rfl
  ·contradiction
end Go.Eva
namespace Go.Eva
open Go.RowKit
structure Step (ι:Io) (F:Nat→Prop) (H:Heap) (w:World) (ι':Io) (F':Nat→Prop) (H':Heap) (w':World):Prop where
 os:w'.os=w.os
 tape:w'.tape=w.tape
 output:w'.output=w.output
 size:w.heap.size≤w'.heap.size
 same: ∀b,b<w.heap.size→ ¬Own ι H b→w'.heap[b]?=w.heap[b]?
 own: ∀b,b<w.heap.size→Own ι' H' b→Own ι H b
 fsub: ∀b,F b→F' b
 ffr: ∀b,b<w.heap.size→F' b→F b∨Own ι H b
 like: ∀id o,H[id]?=some o→ ∃o',H'[id]?=some o'∧Like ι ι' w w' id o o'
 live: ∀b,b<w.heap.size→Live ι' H' b→Live ι H b
theorem Like.refl (ι:Io) (w:World) (id:Nat) (o:Ob):Like ι ι w w id o o:=by
 unfold Like;cases o with
 |dead=>exact .inl rfl
 |one s v r=>exact .inr ⟨rfl,v,r,rfl⟩
 |arr s xs sp r=>exact .inr ⟨rfl,fun _ _=>rfl,xs,sp,r,rfl,rfl⟩
 |vec s xs ps=>exact .inr ⟨rfl,fun _ _=>rfl,xs,ps,rfl,rfl⟩
 |map ks xs ps=>exact .inr ⟨rfl,rfl⟩
 |iter ks vs s=>exact .inr ⟨rfl,ks,vs,s,rfl⟩
 |rng ks xs ps it s=>exact .inr ⟨rfl,rfl⟩
 |hand m=>exact .inr ⟨rfl,m,rfl⟩
 |pool bs xs=>exact .inr ⟨rfl,bs,xs,rfl⟩
theorem Like.trans {ι ι1 ι2:Io} {w w1 w2:World} {id:Nat} {o o1 o2:Ob} (h:Like ι ι1 w w1 id o o1) (k:Like ι1 ι2 w1 w2 id o1 o2):Like ι ι2 w w2 id o o2:=by
 unfold Like at*;rcases k with rfl|k
 ·exact .inl rfl
 rcases h with rfl|h
 ·simp only at k;exact .inl k
 cases o with
 |dead=>simp only at h;subst h;simp only at k;exact .inl k
 |one s v r=>
  obtain ⟨h1,v1,r1,rfl⟩:=h;obtain ⟨k1,v2,r2,rfl⟩:=k;exact .inr ⟨k1.trans h1,v2,r2,rfl⟩
 |arr s xs sp r=>
  obtain ⟨h1,h2,xs1,sp1,r1,rfl,h3⟩:=h;obtain ⟨k1,k2,xs2,sp2,r2,rfl,k3⟩:=k;exact .inr ⟨k1.trans h1,fun b hb=>(k2 b (h1.trans hb)).trans (h2 b hb),xs2,sp2,r2,rfl,k3.trans h3⟩
 |vec s xs ps=>
  obtain ⟨h1,h2,xs1,ps1,rfl,h3⟩:=h;obtain ⟨k1,k2,xs2,ps2,rfl,k3⟩:=k;exact .inr ⟨k1.trans h1,fun b hb=>(k2 b (h1.trans hb)).trans (h2 b hb),xs2,ps2,rfl,k3.trans h3⟩
 |map ks xs ps=>
  obtain ⟨h1,h2⟩:=h;cases o1<;>simp only [Ob.isMap,xq] at h2<;>exact .inr ⟨k.1.trans h1,k.2⟩
 |iter ks vs s=>
  obtain ⟨h1,ks1,vs1,s1,rfl⟩:=h;obtain ⟨k1,ks2,vs2,s2,rfl⟩:=k;exact .inr ⟨k1.trans h1,ks2,vs2,s2,rfl⟩
 |rng ks xs ps it s=>
  obtain ⟨h1,h2⟩:=h;cases o1<;>simp only [Ob.isMap,xq] at h2<;>exact .inr ⟨k.1.trans h1,k.2⟩
 |hand m=>
  obtain ⟨h1,m1,rfl⟩:=h;obtain ⟨k1,m2,rfl⟩:=k;exact .inr ⟨k1.trans h1,m2,rfl⟩
 |pool bs xs=>
  obtain ⟨h1,bs1,xs1,rfl⟩:=h;obtain ⟨k1,bs2,xs2,rfl⟩:=k;exact .inr ⟨k1.trans h1,bs2,xs2,rfl⟩
theorem Step.refl (ι:Io) (F:Nat→Prop) (H:Heap) (w:World):Step ι F H w ι F H w:=
 ⟨rfl,rfl,rfl,qn _,fun _ _ _=>rfl,fun _ _ h=>h,fun _ h=>h,fun _ _ h=> .inl h,fun _ o h=>⟨o,h,.refl ι w _ o⟩,fun _ _ h=>h⟩
theorem Step.trans {ι ι1 ι2:Io} {F F1 F2:Nat→Prop} {H H1 H2:Heap} {w w1 w2:World}
  (h:Step ι F H w ι1 F1 H1 w1) (k:Step ι1 F1 H1 w1 ι2 F2 H2 w2):Step ι F H w ι2 F2 H2 w2 where
 os:=k.os.trans h.os
 tape:=k.tape.trans h.tape
 output:=k.output.trans h.output
 size:=yp h.size k.size
 same b hb hn:=(k.same b (xt hb h.size) (fun ho=>hn (h.own b hb ho))).trans (h.same b hb hn)
 own b hb ho:=h.own b hb (k.own b (xt hb h.size) ho)
 fsub b hb:=k.fsub b (h.fsub b hb)
 ffr b hb hf:=by
  rcases k.ffr b (xt hb h.size) hf with h1|h1
  ·exact h.ffr b hb h1
  ·exact .inr (h.own b hb h1)
 like id o ho:=by
  obtain ⟨o1,h1,h2⟩:=h.like id o ho;obtain ⟨o2,k1,k2⟩:=k.like id o1 h1;exact ⟨o2,k1,h2.trans k2⟩
 live b hb ho:=h.live b hb (k.live b (xt hb h.size) ho)
theorem Step.fsame {ι ι':Io} {F F':Nat→Prop} {H H':Heap} {w w':World} (hg:Good ι F w H) (h:Step ι F H w ι' F' H' w'): ∀b,F b→w'.heap[b]?=w.heap[b]?:=
 fun b hb=>h.same b (hg.fin b hb) (fun ho=>hg.sep b ho hb)
theorem Step.vr {ι ι':Io} {F F':Nat→Prop} {H H':Heap} {w w':World} (hg:Good ι F w H) (h:Step ι F H w ι' F' H' w') {x:V} {v:Value} (hv:VR ι F w H x v):VR ι' F' w' H' x v:=
 hv.mono h.fsub (h.fsame hg) h.like
theorem Like.dead {ι ι':Io} {w w':World} {id:Nat} {o o':Ob} (h:Like ι ι' w w' id o o') (hd:o'.isDead=false):o.isDead=false∧ι' id=ι id:=by
 unfold Like at h;rcases h with rfl|h
 ·simp [Ob.isDead] at hd
 ·cases o with
  |dead=>simp only at h;subst h;simp [Ob.isDead] at hd
  |one s v r=>exact ⟨rfl,h.1⟩
  |arr s xs sp r=>exact ⟨rfl,h.1⟩
  |vec s xs ps=>exact ⟨rfl,h.1⟩
  |map ks xs ps=>exact ⟨rfl,h.1⟩
  |iter ks vs s=>exact ⟨rfl,h.1⟩
  |rng ks xs ps it s=>exact ⟨rfl,h.1⟩
  |hand m=>obtain ⟨_,m',rfl⟩:=h;simp [Ob.isDead] at hd
  |pool bs xs=>exact ⟨rfl,h.1⟩
structure Ext (keep:Nat) (ι:Io) (F:Nat→Prop) (H:Heap) (w:World) (ι':Io) (F':Nat→Prop) (H':Heap) (w':World):Prop where
 os:w'.os=w.os
 tape:w'.tape=w.tape
 output:w'.output=w.output
 size:w.heap.size≤w'.heap.size
 same: ∀b,b<w.heap.size→ ¬Own ι H b→w'.heap[b]?=w.heap[b]?
 own: ∀b,b<w.heap.size→Own ι' H' b→Own ι H b
 fsub: ∀b,F b→F' b
 ffr: ∀b,b<w.heap.size→F' b→F b∨Own ι H b
 like: ∀id o,id<keep→H[id]?=some o→ ∃o',H'[id]?=some o'∧Like ι ι' w w' id o o'
 live: ∀b,b<w.heap.size→Live ι' H' b→Live ι H b
theorem Step.ext {ι ι':Io} {F F':Nat→Prop} {H H':Heap} {w w':World} (h:Step ι F H w ι' F' H' w') (keep:Nat):Ext keep ι F H w ι' F' H' w':=
 ⟨h.os,h.tape,h.output,h.size,h.same,h.own,h.fsub,h.ffr,fun id o _ ho=>h.like id o ho,h.live⟩
theorem Ext.step {ι ι':Io} {F F':Nat→Prop} {H H':Heap} {w w':World} {keep:Nat} (h:Ext keep ι F H w ι' F' H' w') (hk:H.length≤keep):Step ι F H w ι' F' H' w':=
 ⟨h.os,h.tape,h.output,h.size,h.same,h.own,h.fsub,h.ffr,fun id o ho=>h.like id o (xt (zh.1 ho).1 hk) ho,h.live⟩
theorem Ext.trans {keep:Nat} {ι ι1 ι2:Io} {F F1 F2:Nat→Prop} {H H1 H2:Heap} {w w1 w2:World}
  (h:Ext keep ι F H w ι1 F1 H1 w1) (k:Ext keep ι1 F1 H1 w1 ι2 F2 H2 w2):Ext keep ι F H w ι2 F2 H2 w2 where
 os:=k.os.trans h.os
 tape:=k.tape.trans h.tape
 output:=k.output.trans h.output
 size:=yp h.size k.size
 same b hb hn:=(k.same b (xt hb h.size) (fun ho=>hn (h.own b hb ho))).trans (h.same b hb hn)
 own b hb ho:=h.own b hb (k.own b (xt hb h.size) ho)
 fsub b hb:=k.fsub b (h.fsub b hb)
 ffr b hb hf:=by
  rcases k.ffr b (xt hb h.size) hf with h1|h1
  ·exact h.ffr b hb h1
  ·exact .inr (h.own b hb h1)
 like id o hid ho:=by
  obtain ⟨o1,h1,h2⟩:=h.like id o hid ho;obtain ⟨o2,k1,k2⟩:=k.like id o1 hid h1;exact ⟨o2,k1,h2.trans k2⟩
 live b hb ho:=h.live b hb (k.live b (xt hb h.size) ho)
theorem CellsR.mono {F F':Nat→Prop} {w w':World} (hF: ∀b,F b→F' b) (hw: ∀b,F b→w'.heap[b]?=w.heap[b]?) {b sz:Nat} {xs:List T} (hb:w'.heap[b]?=w.heap[b]?)
  (h:CellsR F w b sz xs):CellsR F' w' b sz xs:=by
 obtain ⟨c,h1,h2,h3⟩:=h;exact ⟨c,fun i j hi hj=>by rw [Agf hb];exact h1 i j hi hj,h2,fun i j x t hx hn ht=>(h3 i j x t hx hn ht).mono hF hw⟩
theorem Acf {i:Nat} {v:V}: ∀ {ps:List (Nat×V)},findP i ps=some v→i∈keysP ps
 | [],h=>by simp [findP] at h
 |(j,x)::r,h=>by
  unfold findP at h;split at h
  ·rename_i e;simp [keysP,e]
  ·have:=Acf h;simp only [keysP,qo,qf];exact .inr this
theorem Abv {ps:List (Nat×V)} {xs:List T} {i:Nat} {v:V} (h:Told ps xs.length) (hv:memP ps xs i=some v):i<xs.length:=by
 unfold memP at hv;split at hv
 ·rename_i hf;exact h.2 i (Acf hf)
 ·simp at hv;obtain ⟨x,hx,_⟩:=hv;exact (zh.1 hx).1
theorem ObR.mono {ι ι':Io} {F F':Nat→Prop} {w w':World} {H H':Heap} (hF: ∀b,F b→F' b) (hw: ∀b,F b→w'.heap[b]?=w.heap[b]?)
  (hl: ∀id o,H[id]?=some o→ ∃o',H'[id]?=some o'∧Like ι ι' w w' id o o') {id:Nat} {o:Ob} (hi:o.isDead=false→ι' id=ι id∧ι'.hid id=ι.hid id) (hb:o.isDead=false→ ∀b,Blk ι id b→w'.heap[b]?=w.heap[b]?)
  (h:ObR ι F w H id o):ObR ι' F' w' H' id o:=by
 cases o with
 |dead=>trivial
 |one s v r=>
  obtain ⟨h1,h2,h0,b,cs,e,fp,h3,h4,h5,h6,h7,h8⟩:=h;refine ⟨h1,h2,fun hr=>(hi rfl).2.trans (h0 hr),b,cs,e,fp,(hi rfl).1.trans h3,by rw [hb rfl b (.inl h3)];exact h4,h5,h6,fun j x c hx hc=>(h7 j x c hx hc).mono hF hw hl fun b' hb'=>hb rfl b' (.inr ?_),(hi rfl).2.trans h8⟩;rw [h8];have:=(zu.1 hc).1;exact jv.2 ⟨j,by simp;omega,hb'⟩
 |arr s xs sp r=>
  obtain ⟨h0,hh,h⟩:=h;refine ⟨h0,(hi rfl).2.trans hh,?_⟩;rcases h with ⟨h1,h2,h3⟩|⟨b,cs,e,h1,h2,h3,h4,h5,h6,h7⟩
  ·exact .inl ⟨(hi rfl).1.trans h1,h2,h3⟩
  ·exact .inr ⟨b,cs,e,(hi rfl).1.trans h1,by rw [hb rfl b (.inl h1)];exact h2,h3,h4,h5,h6,h7.mono hF hw (hb rfl b (.inl h1))⟩
 |vec s xs ps=>
  obtain ⟨h0,ht,h⟩:=h;refine ⟨h0,ht,?_⟩;rcases h with ⟨h1,h2,h3⟩|⟨b,cs,e,fp,h1,h2,h3,h4,h5,h6,h7,h8⟩
  ·exact .inl ⟨(hi rfl).1.trans h1,h2,(hi rfl).2.trans h3⟩
  ·refine .inr ⟨b,cs,e,fp,(hi rfl).1.trans h1,by rw [hb rfl b (.inl h1)];exact h2,h3,h4,h5,h6,fun i j v x c hv hx hc=>(h7 i j v x c hv hx hc).mono hF hw hl fun b' hb'=>hb rfl b' (.inr ?_),(hi rfl).2.trans h8⟩;rw [h8];have hj:=(zh.1 hx).1;have hs:=(h6 i v hv).2;have hvl:v.cells.length=v.size:=rfl;have hil:i<xs.length:=Abv ht hv;exact jv.2 ⟨i,by simpa using hil,jv.2 ⟨j,by simp;omega,hb'⟩⟩
 |map ks xs ps=>
  obtain ⟨h0,ht,b,es,clock,fp,h1,h2,h3,h4,h5,h9,h6,h8⟩:=h;refine ⟨h0,ht,b,es,clock,fp,(hi rfl).1.trans h1,by rw [hb rfl b (.inl h1)];exact h2,h3,h4,fun i x e k1 k2=>(h5 i x e k1 k2).mono hF hw,h9,fun i v e k1 k2=>(h6 i v e k1 k2).mono hF hw hl fun b' hb'=>hb rfl b' (.inr ?_),(hi rfl).2.trans h8⟩;rw [h8];have:=(zu.1 k2).1;exact jv.2 ⟨i,by simp;omega,hb'⟩
 |iter ks vs s=>
  obtain ⟨h0,hh,b,m,es,clock,h1,hm,h2,h3,h4,h5,h6,h7,h8⟩:=h;exact ⟨h0,(hi rfl).2.trans hh,b,m,es,clock,(hi rfl).1.trans h1,hF m hm,by rw [hw m hm];exact h2,h3,h4,fun i x e k1 k2=>(h5 i x e k1 k2).mono hF hw,fun i x e k1 k2=>(h6 i x e k1 k2).mono hF hw,h7,by rw [hb rfl b (.inl h1)];exact h8⟩
 |hand m=>trivial
 |pool bs xs=>
  obtain ⟨⟨h1,h0,h2⟩,h3⟩:=h;refine ⟨⟨(hi rfl).1.trans h1,(hi rfl).2.trans h0,h2⟩,fun i x b hx hb'=> ?_⟩;obtain ⟨k1,cs,e,k2,k3,k4,k5⟩:=h3 i x b hx hb';exact ⟨k1,cs,e,by rw [hb rfl b (.inr (by rw [h0];exact List.mem_of_getElem? hb'))];exact k2,k3,k4,fun j t c q1 q2=>(k5 j t c q1 q2).mono hF hw⟩
 |rng ks xs ps it s=>
  obtain ⟨⟨h0,ht,hit⟩,b,n,es,clock,fp,h1,h2,h3,h4,h5,h9,h6,h8,h10,h11,h12⟩:=h;have hlen:H.length≤H'.length:=by
   rcases Nat.eq_zero_or_pos H.length with e|e
   ·omega
   ·obtain ⟨o',k1,_⟩:=hl (H.length-1) _ (zt (by omega));have:=(zh.1 k1).1;omega
  refine ⟨⟨h0,ht,by omega⟩,b,n,es,clock,fp,(hi rfl).1.trans h1,by rw [hb rfl b (.inl h1)];exact h2,h3,h4,fun i x e k1 k2=>(h5 i x e k1 k2).mono hF hw,h9,fun i v e k1 k2=>(h6 i v e k1 k2).mono hF hw hl fun b' hb'=>hb rfl b' (.inr ?_),(hi rfl).2.trans h8,h10,
   by rw [hb rfl n (.inr (by rw [h8];exact List.mem_cons_self))];exact h11,fun k hk=> ?_⟩
  ·rw [h8];have:=(zu.1 k2).1;exact qu _ (jv.2 ⟨i,by simp;omega,hb'⟩)
  ·obtain ⟨o',k1,k2⟩:=hl it _ (zt hit);rw [hk] at k1;obtain rfl:=ze k1;have hg:H[it]?=some H[it]:=zt hit;unfold Like at k2;rcases k2 with k2|k2
   ·cases k2
   ·generalize H[it]=o at hg k2;cases o with
    |hand k'=>simp only at k2;exact k2.1.trans (h12 k' hg)
    |dead=>simp at k2
    |map _ _ _=>simp [Ob.isMap] at k2
    |rng _ _ _ _ _=>simp [Ob.isMap] at k2
    |one _ _ _=>simp at k2
    |arr _ _ _ _=>simp at k2
    |vec _ _ _=>simp at k2
    |iter _ _ _=>simp at k2
    |pool _ _=>simp at k2
def updH (ι:Io) (n:Nat) (b:Option Nat) (fp:List Nat):Io:=⟨fun i=>if i=n then b else ι i,fun i=>if i=n then fp else ι.hid i⟩
def upd (ι:Io) (n:Nat) (b:Option Nat):Io:=updH ι n b []
def Io.sh (ι:Io) (n:Nat) (fp:List Nat):Io:=⟨ι.f,fun i=>if i=n then fp else ι.hid i⟩
theorem Ac6 {ι:Io} {n i:Nat} {b:Option Nat} {fp:List Nat} (h:i≠n):updH ι n b fp i=ι i∧(updH ι n b fp).hid i=ι.hid i:=by
 simp [updH,h]
theorem AaK {ι:Io} {n:Nat} {b:Option Nat} {fp:List Nat}:updH ι n b fp n=b∧(updH ι n b fp).hid n=fp:=by
 simp [updH]
theorem AlR {ι:Io} {n i:Nat} {b:Option Nat} (h:i≠n):upd ι n b i=ι i∧(upd ι n b).hid i=ι.hid i:=Ac6 h
theorem Aak {ι:Io} {n:Nat} {b:Option Nat}:upd ι n b n=b∧(upd ι n b).hid n= []:=AaK
theorem Io.sh_self (ι:Io) (n:Nat):ι.sh n (ι.hid n)=ι:=by
 unfold Io.sh;cases ι with
 |mk f hid=>
  congr 1;funext i;simp only;split
  ·rename_i h;rw [h]
  ·rfl
theorem Io.sh_ne {ι:Io} {n i:Nat} {fp:List Nat} (h:i≠n):(ι.sh n fp) i=ι i∧(ι.sh n fp).hid i=ι.hid i:=by simp [Io.sh,h]
theorem Io.sh_eq {ι:Io} {n:Nat} {fp:List Nat}:(ι.sh n fp) n=ι n∧(ι.sh n fp).hid n=fp:=by simp [Io.sh]
theorem Aby {ι ι':Io} {i b:Nat} (h:ι' i=ι i∧ι'.hid i=ι.hid i):Blk ι' i b↔Blk ι i b:=by unfold Blk;rw [h.1,h.2]
theorem AmQ {ι:Io} {n b:Nat} {x:Option Nat}:Blk (upd ι n x) n b↔x=some b:=by unfold Blk;rw [Aak.1,Aak.2];simp
theorem Like.of {ι ι':Io} {w w':World} {id:Nat} {o:Ob} (h:ι' id=ι id) (hb:o.isDead=false→ ∀b,ι id=some b→w'.heap[b]?=w.heap[b]?):Like ι ι' w w' id o o:=by
 unfold Like;cases o with
 |dead=>exact .inl rfl
 |one s v r=>exact .inr ⟨h,v,r,rfl⟩
 |arr s xs sp r=>exact .inr ⟨h,fun b hb'=>Apw (hb rfl b hb'),xs,sp,r,rfl,rfl⟩
 |vec s xs ps=>exact .inr ⟨h,fun b hb'=>Apw (hb rfl b hb'),xs,ps,rfl,rfl⟩
 |map ks xs ps=>exact .inr ⟨h,rfl⟩
 |iter ks vs s=>exact .inr ⟨h,ks,vs,s,rfl⟩
 |rng ks xs ps it s=>exact .inr ⟨h,rfl⟩
 |hand m=>exact .inr ⟨h,m,rfl⟩
 |pool bs xs=>exact .inr ⟨h,bs,xs,rfl⟩
theorem Aai {w:World} {o:Obj} {b:Nat} (hb:b<w.heap.size):(w.alloc o).heap[b]?=w.heap[b]?:=Below.heap_alloc w o b hb
theorem Aau {w:World} {o:Obj}:(w.alloc o).heap[w.heap.size]?=some o:=by
 show (w.heap.push o)[w.heap.size]?=_;simp
theorem Adc {ι:Io} {w:World} {H:Heap} {ob:Ob} {o:Obj} {b:Option Nat} (hg: ∀id o b,H[id]?=some o→o.isDead=false→ι id=some b→b<w.heap.size):
  ∀id o',H[id]?=some o'→ ∃o'',(H++ [ob])[id]?=some o''∧Like ι (upd ι H.length b) w (w.alloc o) id o' o'':=by
 intro id o' h;have hid:=(zh.1 h).1;exact ⟨o',by rw [qq hid];exact h,Like.of (AlR (by omega)).1 fun hd b hb=>Aai (hg id _ b h hd hb)⟩
theorem ObR.lt {ι:Io} {F:Nat→Prop} {w:World} {H:Heap} {id:Nat} {o:Ob} (ho:ObR ι F w H id o) (hd:o.isDead=false): ∀b,Blk ι id b→b<w.heap.size:=by
 have key: ∀ {b:Nat} {x:Obj},w.heap[b]?=some x→b<w.heap.size:=fun hc=>(zu.1 hc).1;intro b hb;cases o with
 |dead=>simp [Ob.isDead] at hd
 |one s v r=>
  obtain ⟨h1,h2,h0,b',cs,e,fp,h3,h4,h5,h6,h7,h8⟩:=ho;rcases hb with hb|hb
  ·rw [hb] at h3;obtain rfl:=ze h3;exact key h4
  ·rw [h8] at hb;obtain ⟨j,hj,hb⟩:=jv.1 hb;simp at hj;have hvl:v.cells.length=v.size:=rfl;exact (h7 j _ _ (zt (by omega)) (qp (by omega))).lt b hb
 |arr s xs sp r=>
  obtain ⟨_,hh,h⟩:=ho;rcases hb with hb|hb
  ·rcases h with ⟨h1,_⟩|⟨b',cs,e,h1,h2,_⟩
   ·rw [hb] at h1;contradiction
   ·rw [hb] at h1;obtain rfl:=ze h1;exact key h2
  ·rw [hh] at hb;simp at hb
 |vec s xs ps=>
  obtain ⟨_,ht,h⟩:=ho;rcases h with ⟨h1,h2,h3⟩|⟨b',cs,e,fp,h1,h2,h3,h4,h5,h6,h7,h8⟩
  ·rcases hb with hb|hb
   ·rw [hb] at h1;contradiction
   ·rw [h3] at hb;simp at hb
  ·rcases hb with hb|hb
   ·rw [hb] at h1;obtain rfl:=ze h1;exact key h2
   ·rw [h8] at hb;obtain ⟨i,hi,hb⟩:=jv.1 hb;obtain ⟨j,hj,hb⟩:=jv.1 hb;simp at hi hj;have hm: ∃v,memP ps xs i=some v:=by
     unfold memP;split
     ·exact ⟨_,rfl⟩
     ·exact ⟨_,by rw [zt hi];rfl⟩
    obtain ⟨v,hv⟩:=hm;have hvl:v.cells.length=v.size:=rfl;have hvs:=(h6 i v hv).2;have hle:(i+1)*s≤xs.length*s:=qj s (by omega);rw [jc,xu] at hle;exact (h7 i j v _ _ hv (zt (by omega)) (qp (by omega))).lt b hb
 |map ks xs ps=>
  obtain ⟨h0,ht,b',es,clock,fp,h1,h2,h3,h4,h5,h9,h6,h8⟩:=ho;rcases hb with hb|hb
  ·rw [hb] at h1;obtain rfl:=ze h1;exact key h2
  ·rw [h8] at hb;obtain ⟨i,hi,hb⟩:=jv.1 hb;simp at hi;have hm: ∃v,memP ps xs i=some v:=by
    unfold memP;split
    ·exact ⟨_,rfl⟩
    ·exact ⟨_,by rw [zt (by omega)];rfl⟩
   obtain ⟨v,hv⟩:=hm;exact (h6 i v _ hv (qp (by omega))).lt b hb
 |iter ks vs s=>
  obtain ⟨_,hh,b',m,es,clock,h1,_,_,_,_,_,_,_,h2⟩:=ho;rcases hb with hb|hb
  ·rw [hb] at h1;obtain rfl:=ze h1;exact key h2
  ·rw [hh] at hb;simp at hb
 |hand m=>simp [Ob.isDead] at hd
 |pool bs xs=>
  obtain ⟨⟨h1,h0,h2⟩,h3⟩:=ho;rcases hb with hb|hb
  ·rw [hb] at h1;contradiction
  ·rw [h0] at hb;obtain ⟨i,hi,e⟩:=xn hb;obtain ⟨_,cs,e',k2,_⟩:=h3 i _ b (zt (by omega)) (by rw [zt hi,e]);exact key k2
 |rng ks xs ps it s=>
  obtain ⟨⟨h0,ht,hit⟩,b',n,es,clock,fp,h1,h2,h3,h4,h5,h9,h6,h8,h10,h11,h12⟩:=ho;rcases hb with hb|hb
  ·rw [hb] at h1;obtain rfl:=ze h1;exact key h2
  ·rw [h8] at hb;rcases qf.1 hb with rfl|hb
   ·exact key h11
   obtain ⟨i,hi,hb⟩:=jv.1 hb;simp at hi;have hm: ∃v,memP ps xs i=some v:=by
    unfold memP;split
    ·exact ⟨_,rfl⟩
    ·exact ⟨_,by rw [zt (by omega)];rfl⟩
   obtain ⟨v,hv⟩:=hm;exact (h6 i v _ hv (qp (by omega))).lt b hb
theorem Good.ltB {ι:Io} {F:Nat→Prop} {w:World} {H:Heap} (hg:Good ι F w H): ∀id o b,H[id]?=some o→o.isDead=false→Blk ι id b→b<w.heap.size:=
 fun id o b h hd hb=>(hg.obj id o h).lt hd b hb
theorem Good.lt {ι:Io} {F:Nat→Prop} {w:World} {H:Heap} (hg:Good ι F w H): ∀id o b,H[id]?=some o→o.isDead=false→ι id=some b→b<w.heap.size:=
 fun id o b h hd hb=>hg.ltB id o b h hd (.inl hb)
theorem Aa4 {o:Ob} (h:o.ro=false):o.isDead=false:=by cases o<;>simp_all [Ob.ro,Ob.isDead]
theorem Aan {H:Heap} {ob o:Ob} {id:Nat} (h:(H++ [ob])[id]?=some o):H[id]?=some o∨(id=H.length∧o=ob):=by
 by_cases hid:id<H.length
 ·rw [qq hid] at h;exact .inl h
 ·rw [qg (by omega)] at h;have:id-H.length=0:=by
   rcases Nat.eq_zero_or_pos (id-H.length) with h0|h0
   ·exact h0
   ·rw [vo (by simp;omega)] at h;contradiction
  rw [this] at h;simp at h;exact .inr ⟨by omega,h.symm⟩
theorem Aen {ι:Io} {F:Nat→Prop} {w:World} {H:Heap} (hg:Good ι F w H) (ob:Ob) (obj:Obj) (hro:ob.ro=false)
  (hob:ObR (upd ι H.length (some w.heap.size)) F (w.alloc obj) (H++ [ob]) H.length ob):
  Good (upd ι H.length (some w.heap.size)) F (w.alloc obj) (H++ [ob])∧
  Step ι F H w (upd ι H.length (some w.heap.size)) F (H++ [ob]) (w.alloc obj):=by
 have hl:=Adc (ob:=ob) (o:=obj) (b:=some w.heap.size) hg.lt;have hfs: ∀b,F b→(w.alloc obj).heap[b]?=w.heap[b]?:=fun b hb=>Aai (hg.fin b hb);have old: ∀id,id<H.length→upd ι H.length (some w.heap.size) id=ι id∧(upd ι H.length (some w.heap.size)).hid id=ι.hid id:=fun id h=>AlR (by omega);have oldB: ∀id b,id<H.length→Blk (upd ι H.length (some w.heap.size)) id b→Blk ι id b:=fun id b h hb=>(Aby (old id h)).1 hb;have newB: ∀b,Blk (upd ι H.length (some w.heap.size)) H.length b→b=w.heap.size:=fun b hb=>(ze (AmQ.1 hb)).symm;have hown: ∀b,b<w.heap.size→Own (upd ι H.length (some w.heap.size)) (H++ [ob]) b→Own ι H b:=by
  rintro b hb ⟨id,o,h1,h2,h3⟩;rcases Aan h1 with h|⟨rfl,rfl⟩
  ·exact ⟨id,o,h,h2,oldB id b (zh.1 h).1 h3⟩
  ·have:=newB b h3;omega
 have hlive: ∀b,b<w.heap.size→Live (upd ι H.length (some w.heap.size)) (H++ [ob]) b→Live ι H b:=by
  rintro b hb ⟨id,o,h1,h2,h3⟩;rcases Aan h1 with h|⟨rfl,rfl⟩
  ·exact ⟨id,o,h,h2,oldB id b (zh.1 h).1 h3⟩
  ·have:=newB b h3;omega
 refine ⟨⟨fun b hb=>by have:=hg.fin b hb;simp;omega,?_,?_,?_,?_,?_⟩,⟨rfl,rfl,rfl,by simp,fun b hb _=>Aai hb,hown,fun _ h=>h,fun _ _ h=> .inl h,hl,hlive⟩⟩
 ·intro id o h;rcases Aan h with h|⟨rfl,rfl⟩
  ·have hid:=(zh.1 h).1;exact (hg.obj id o h).mono (fun _ h=>h) hfs hl (fun _=>old id hid) (fun hd b hb=>Aai (hg.ltB id o b h hd hb))
  ·exact hob
 ·intro i j oi oj b hi hj hdi hdj bi bj;rcases Aan hi with h|⟨rfl,rfl⟩<;>rcases Aan hj with h'|⟨rfl,rfl⟩
  ·exact hg.inj i j oi oj b h h' hdi hdj (oldB i b (zh.1 h).1 bi) (oldB j b (zh.1 h').1 bj)
  ·have:=hg.ltB i oi b h hdi (oldB i b (zh.1 h).1 bi);have:=newB b bj;omega
  ·have:=hg.ltB j oj b h' hdj (oldB j b (zh.1 h').1 bj);have:=newB b bi;omega
  ·rfl
 ·intro b ho hf;by_cases hb:b<w.heap.size
  ·exact hg.sep b (hown b hb ho) hf
  ·exact absurd (hg.fin b hf) hb
 ·intro id o b h hd hr hb;rcases Aan h with h|⟨rfl,rfl⟩
  ·exact hg.rof id o b h hd hr (oldB id b (zh.1 h).1 hb)
  ·rw [hro] at hr;contradiction
 ·intro id o h hd;rcases Aan h with h|⟨rfl,rfl⟩
  ·have e:=old id (zh.1 h).1;rw [e.1,e.2];exact hg.nd id o h hd
  ·rw [Aak.2];simp
theorem AbY {ι:Io} {F:Nat→Prop} {w:World} {H:Heap} (hg:Good ι F w H) (ob:Ob) (cs:Array Value) (e:TypeId) (hro:ob.ro=false)
 (hob:ObR (upd ι H.length (some w.heap.size)) F (w.alloc (.cells cs e (0,0))) (H++ [ob]) H.length ob):
 Good (upd ι H.length (some w.heap.size)) F (w.alloc (.cells cs e (0,0))) (H++ [ob])∧
 Step ι F H w (upd ι H.length (some w.heap.size)) F (H++ [ob]) (w.alloc (.cells cs e (0,0))):=Aen hg ob _ hro hob
theorem AiS {ι:Io} {F:Nat→Prop} {w:World} {H:Heap} (hg:Good ι F w H) (ob:Ob) (hro:ob.ro=false)
  (hob:ObR (upd ι H.length none) F w (H++ [ob]) H.length ob):
  Good (upd ι H.length none) F w (H++ [ob])∧Step ι F H w (upd ι H.length none) F (H++ [ob]) w:=by
 have old: ∀id,id<H.length→upd ι H.length none id=ι id∧(upd ι H.length none).hid id=ι.hid id:=fun id h=>AlR (by omega);have oldB: ∀id b,id<H.length→Blk (upd ι H.length none) id b→Blk ι id b:=fun id b h hb=>(Aby (old id h)).1 hb;have newB: ∀b,¬Blk (upd ι H.length none) H.length b:=fun b hb=>by have:=AmQ.1 hb;contradiction
 have hl: ∀id o',H[id]?=some o'→ ∃o'',(H++ [ob])[id]?=some o''∧Like ι (upd ι H.length none) w w id o' o'':=by
  intro id o' h;have hid:=(zh.1 h).1;exact ⟨o',by rw [qq hid];exact h,Like.of (old id hid).1 fun _ _ _=>rfl⟩
 have hown: ∀b,Own (upd ι H.length none) (H++ [ob]) b→Own ι H b:=by
  rintro b ⟨id,o,h1,h2,h3⟩;rcases Aan h1 with h|⟨rfl,rfl⟩
  ·exact ⟨id,o,h,h2,oldB id b (zh.1 h).1 h3⟩
  ·exact absurd h3 (newB b)
 have hlive: ∀b,Live (upd ι H.length none) (H++ [ob]) b→Live ι H b:=by
  rintro b ⟨id,o,h1,h2,h3⟩;rcases Aan h1 with h|⟨rfl,rfl⟩
  ·exact ⟨id,o,h,h2,oldB id b (zh.1 h).1 h3⟩
  ·exact absurd h3 (newB b)
 refine ⟨⟨hg.fin,?_,?_,fun b ho hf=>hg.sep b (hown b ho) hf,?_,?_⟩,⟨rfl,rfl,rfl,qn _,fun _ _ _=>rfl,fun b _ h=>hown b h,fun _ h=>h,fun _ _ h=> .inl h,hl,fun b _ h=>hlive b h⟩⟩
 ·intro id o h;rcases Aan h with h|⟨rfl,rfl⟩
  ·have hid:=(zh.1 h).1;exact (hg.obj id o h).mono (fun _ h=>h) (fun _ _=>rfl) hl (fun _=>old id hid) (fun _ _ _=>rfl)
  ·exact hob
 ·intro i j oi oj b hi hj hdi hdj bi bj;rcases Aan hi with h|⟨rfl,rfl⟩<;>rcases Aan hj with h'|⟨rfl,rfl⟩
  ·exact hg.inj i j oi oj b h h' hdi hdj (oldB i b (zh.1 h).1 bi) (oldB j b (zh.1 h').1 bj)
  ·exact absurd bj (newB b)
  ·exact absurd bi (newB b)
  ·rfl
 ·intro id o b h hd hr hb;rcases Aan h with h|⟨rfl,rfl⟩
  ·exact hg.rof id o b h hd hr (oldB id b (zh.1 h).1 hb)
  ·rw [hro] at hr;contradiction
 ·intro id o h hd;rcases Aan h with h|⟨rfl,rfl⟩
  ·have e:=old id (zh.1 h).1;rw [e.1,e.2];exact hg.nd id o h hd
  ·rw [Aak.2];simp
theorem Adp {ι:Io} {F:Nat→Prop} {w:World} {H:Heap} (hg:Good ι F w H) (s:Nat) (hs:0<s):
  Good (upd ι H.length none) F w (H++ [.arr s [] none false])∧Step ι F H w (upd ι H.length none) F (H++ [.arr s [] none false]) w:=
 AiS hg _ rfl ⟨hs,Aak.2,.inl ⟨Aak.1,rfl,by simp⟩⟩
theorem AiJ {ι:Io} {F:Nat→Prop} {w w':World} {H:Heap} (hg:Good ι F w H) {id:Nat} {o o':Ob} (fp:List Nat) (ho:H[id]?=some o) (hfp:o'.isDead=false→fp.Sublist (ι.hid id))
  (hos:w'.os=w.os) (htape:w'.tape=w.tape) (hout:w'.output=w.output) (hsize:w'.heap.size=w.heap.size)
  (hother: ∀b,(o.ro=true∨ ¬Blk ι id b)→w'.heap[b]?=w.heap[b]?) (hlike:Like ι (ι.sh id fp) w w' id o o') (hro:o'.isDead=false→o'.ro=o.ro)
  (hob:(∀i oi,H[i]?=some oi→ ∃o'',(H.set id o')[i]?=some o''∧Like ι (ι.sh id fp) w w' i oi o'')→ObR (ι.sh id fp) F w' (H.set id o') id o'):
  Good (ι.sh id fp) F w' (H.set id o')∧Step ι F H w (ι.sh id fp) F (H.set id o') w':=by
 have hid:=(zh.1 ho).1;have hblk: ∀i oi b,i≠id→H[i]?=some oi→oi.isDead=false→Blk ι i b→w'.heap[b]?=w.heap[b]?:=by
  intro i oi b hne hi hd hb;refine hother b ?_;cases hod:o.isDead with
  |true=>left;cases o<;>simp_all [Ob.isDead,Ob.ro]
  |false=>exact .inr (fun e=>hne (hg.inj i id oi o b hi ho hd hod hb e))
 have hl: ∀i oi,H[i]?=some oi→ ∃o'',(H.set id o')[i]?=some o''∧Like ι (ι.sh id fp) w w' i oi o'':=by
  intro i oi hi;by_cases e:i=id
  ·subst e;rw [ho] at hi;obtain rfl:=ze hi;exact ⟨o',by simp [hid],hlike⟩
  ·exact ⟨oi,by rw [qy (vf e)];exact hi,Like.of rfl fun hd b hb=>hblk i _ b e hi hd (.inl hb)⟩
 have back: ∀(i b:Nat) (oi:Ob),(H.set id o')[i]?=some oi→oi.isDead=false→Blk (ι.sh id fp) i b→ ∃oi':Ob,H[i]?=some oi'∧oi'.isDead=false∧oi.ro=oi'.ro∧Blk ι i b:=by
  intro i b oi hi hd hb;by_cases e:i=id
  ·subst e;simp [hid] at hi;subst hi;refine ⟨o,ho,(hlike.dead hd).1,hro hd,?_⟩;rcases hb with hb|hb
   ·exact .inl hb
   ·rw [Io.sh_eq.2] at hb;exact .inr ((hfp hd).subset hb)
  ·rw [qy (vf e)] at hi;exact ⟨oi,hi,hd,rfl,(Aby (Io.sh_ne e)).1 hb⟩
 have hown: ∀b,Own (ι.sh id fp) (H.set id o') b→Own ι H b:=by
  rintro b ⟨i,oi,h1,h2,h3⟩;obtain ⟨oi',k1,k2,k3,k4⟩:=back i b oi h1 (Aa4 h2) h3;exact ⟨i,oi',k1,k3 ▸ h2,k4⟩
 have hlive: ∀b,Live (ι.sh id fp) (H.set id o') b→Live ι H b:=by
  rintro b ⟨i,oi,h1,h2,h3⟩;obtain ⟨oi',k1,k2,k3,k4⟩:=back i b oi h1 h2 h3;exact ⟨i,oi',k1,k2,k4⟩
 have hsame: ∀b,b<w.heap.size→ ¬Own ι H b→w'.heap[b]?=w.heap[b]?:=by
  intro b _ hn;refine hother b ?_;cases hr:o.ro with
  |true=>exact .inl rfl
  |false=>exact .inr (fun e=>hn ⟨id,o,ho,hr,e⟩)
 have hfs: ∀b,F b→w'.heap[b]?=w.heap[b]?:=fun b hb=>hsame b (hg.fin b hb) (fun h=>hg.sep b h hb);refine ⟨⟨fun b hb=>by rw [hsize];exact hg.fin b hb,?_,?_,fun b h hf=>hg.sep b (hown b h) hf,?_,?_⟩,
  ⟨hos,htape,hout,by omega,hsame,fun b _ h=>hown b h,fun _ h=>h,fun _ _ h=> .inl h,hl,fun b _ h=>hlive b h⟩⟩
 ·intro i oi hi;by_cases e:i=id
  ·subst e;simp [hid] at hi;subst hi;exact hob hl
  ·rw [qy (vf e)] at hi;exact (hg.obj i oi hi).mono (fun _ h=>h) hfs hl (fun _=>Io.sh_ne e) (fun hd b hb=>hblk i oi b e hi hd hb)
 ·intro i j oi oj b hi hj hdi hdj bi bj;obtain ⟨oi',h1,h2,_,h3⟩:=back i b oi hi hdi bi;obtain ⟨oj',k1,k2,_,k3⟩:=back j b oj hj hdj bj;exact hg.inj i j oi' oj' b h1 k1 h2 k2 h3 k3
 ·intro i oi b hi hd hr hb;obtain ⟨oi',h1,h2,h4,h3⟩:=back i b oi hi hd hb;exact hg.rof i oi' b h1 h2 (h4 ▸ hr) h3
 ·intro i oi hi hd;by_cases e:i=id
  ·subst e;simp [hid] at hi;subst hi;obtain ⟨n1,n2⟩:=hg.nd i o ho (hlike.dead hd).1;rw [Io.sh_eq.2];exact ⟨n1.sublist (hfp hd),fun b hb hm=>n2 b hb ((hfp hd).subset hm)⟩
  ·rw [qy (vf e)] at hi;rw [(Io.sh_ne e).1,(Io.sh_ne e).2];exact hg.nd i oi hi hd
theorem AfZ {ι:Io} {F:Nat→Prop} {w w':World} {H:Heap} (hg:Good ι F w H) {id:Nat} {o o':Ob} (fp:List Nat) (ho:H[id]?=some o) (hfp:o'.isDead=false→fp.Sublist (ι.hid id))
  (hos:w'.os=w.os) (htape:w'.tape=w.tape) (hout:w'.output=w.output) (hsize:w'.heap.size=w.heap.size)
  (hother: ∀b,(o.ro=true∨ι id≠some b)→w'.heap[b]?=w.heap[b]?) (hlike:Like ι (ι.sh id fp) w w' id o o') (hro:o'.isDead=false→o'.ro=o.ro)
  (hob:(∀i oi,H[i]?=some oi→ ∃o'',(H.set id o')[i]?=some o''∧Like ι (ι.sh id fp) w w' i oi o'')→ObR (ι.sh id fp) F w' (H.set id o') id o'):
  Good (ι.sh id fp) F w' (H.set id o')∧Step ι F H w (ι.sh id fp) F (H.set id o') w':=
 AiJ hg fp ho hfp hos htape hout hsize (fun b hb=>hother b (hb.imp_right fun h e=>h (.inl e))) hlike hro hob
theorem Adn {ι:Io} {F:Nat→Prop} {w w':World} {H:Heap} (hg:Good ι F w H) {id:Nat} {o o':Ob} (ho:H[id]?=some o)
  (hos:w'.os=w.os) (htape:w'.tape=w.tape) (hout:w'.output=w.output) (hsize:w'.heap.size=w.heap.size)
  (hother: ∀b,(o.ro=true∨ι id≠some b)→w'.heap[b]?=w.heap[b]?) (hlike:Like ι ι w w' id o o') (hro:o'.isDead=false→o'.ro=o.ro)
  (hob:(∀i oi,H[i]?=some oi→ ∃o'',(H.set id o')[i]?=some o''∧Like ι ι w w' i oi o'')→ObR ι F w' (H.set id o') id o'):
  Good ι F w' (H.set id o')∧Step ι F H w ι F (H.set id o') w':=by
 have:=AfZ hg (ι.hid id) ho (fun _=>List.Sublist.refl _) hos htape hout hsize hother (by rw [Io.sh_self];exact hlike) hro (by rw [Io.sh_self];exact hob)
 rwa [Io.sh_self] at this
theorem AlV {ι:Io} {F:Nat→Prop} {w:World} {H:Heap} (hg:Good ι F w H) {id m:Nat} {o o':Ob} (obj:Obj) (ho:H[id]?=some o) (hd:o'.isDead=false) (hr:o'.ro=false) (hro:o.ro=false)
  (hlike:Like ι ⟨fun i=>if i=H.length then some w.heap.size else ι i,fun i=>if i=id then w.heap.size::ι.hid i else if i=H.length then [] else ι.hid i⟩ w (w.alloc obj) id o o')
  (hob:(∀i oi,H[i]?=some oi→ ∃o'',((H++ [Ob.hand m]).set id o')[i]?=some o''∧Like ι ⟨fun i=>if i=H.length then some w.heap.size else ι i,fun i=>if i=id then w.heap.size::ι.hid i else if i=H.length then [] else ι.hid i⟩ w (w.alloc obj) i oi o'')→
   ObR ⟨fun i=>if i=H.length then some w.heap.size else ι i,fun i=>if i=id then w.heap.size::ι.hid i else if i=H.length then [] else ι.hid i⟩ F (w.alloc obj) ((H++ [Ob.hand m]).set id o') id o'):
  Good ⟨fun i=>if i=H.length then some w.heap.size else ι i,fun i=>if i=id then w.heap.size::ι.hid i else if i=H.length then [] else ι.hid i⟩ F (w.alloc obj) ((H++ [Ob.hand m]).set id o')∧
  Step ι F H w ⟨fun i=>if i=H.length then some w.heap.size else ι i,fun i=>if i=id then w.heap.size::ι.hid i else if i=H.length then [] else ι.hid i⟩ F ((H++ [Ob.hand m]).set id o') (w.alloc obj):=by
 generalize hι:(⟨fun i=>if i=H.length then some w.heap.size else ι i,fun i=>if i=id then w.heap.size::ι.hid i else if i=H.length then [] else ι.hid i⟩:Io)=ι' at*;have hid:=(zh.1 ho).1;have e1: ∀i,i<H.length→ι' i=ι i:=fun i hi=>by subst hι;show (if i=H.length then _ else _)=_;rw [if_neg (by omega)]
 have e2: ∀i,i<H.length→i≠id→ι'.hid i=ι.hid i:=fun i hi hne=>by subst hι;show (if i=id then _ else _)=_;rw [if_neg hne,if_neg (by omega)]
 have e3:ι'.hid id=w.heap.size::ι.hid id:=by subst hι;show (if id=id then _ else _)=_;rw [if_pos rfl]
 have hfs: ∀b,F b→(w.alloc obj).heap[b]?=w.heap[b]?:=fun b hb=>Aai (hg.fin b hb);have hl: ∀i oi,H[i]?=some oi→ ∃o'',((H++ [Ob.hand m]).set id o')[i]?=some o''∧Like ι ι' w (w.alloc obj) i oi o'':=by
  intro i oi hi;have hil:=(zh.1 hi).1;by_cases e:i=id
  ·subst e;rw [ho] at hi;obtain rfl:=ze hi;exact ⟨o',by rw [qw (by simp;omega)],hlike⟩
  ·exact ⟨oi,by rw [qy (vf e),qq hil];exact hi,Like.of (e1 i hil) fun hd b hb=>Aai (hg.lt i _ b hi hd hb)⟩
 have back: ∀(i b:Nat) (oi:Ob),((H++ [Ob.hand m]).set id o')[i]?=some oi→oi.isDead=false→Blk ι' i b→(b=w.heap.size∧i=id∧oi=o')∨ ∃oi':Ob,H[i]?=some oi'∧oi'.isDead=false∧oi.ro=oi'.ro∧Blk ι i b:=by
  intro i b oi hi hdi hb;by_cases e:i=id
  ·subst e;rw [qw (by simp;omega)] at hi;obtain rfl:=ze hi;rcases hb with hb|hb
   ·exact .inr ⟨o,ho,Aa4 hro,hr.trans hro.symm,.inl ((e1 i hid) ▸ hb)⟩
   ·rw [e3] at hb;rcases qf.1 hb with hb|hb
    ·exact .inl ⟨hb,rfl,rfl⟩
    ·exact .inr ⟨o,ho,Aa4 hro,hr.trans hro.symm,.inr hb⟩
  ·rw [qy (vf e)] at hi;rcases Aan hi with h|⟨_,rfl⟩
   ·have hil:=(zh.1 h).1;exact .inr ⟨oi,h,hdi,rfl,(Aby ⟨e1 i hil,e2 i hil e⟩).1 hb⟩
   ·simp [Ob.isDead] at hdi
 have hown: ∀b,Own ι' ((H++ [Ob.hand m]).set id o') b→b=w.heap.size∨Own ι H b:=by
  rintro b ⟨i,oi,h1,h2,h3⟩;rcases back i b oi h1 (Aa4 h2) h3 with ⟨k1,_⟩|⟨oi',k1,k2,k3,k4⟩
  ·exact .inl k1
  ·exact .inr ⟨i,oi',k1,k3 ▸ h2,k4⟩
 have hlive: ∀b,Live ι' ((H++ [Ob.hand m]).set id o') b→b=w.heap.size∨Live ι H b:=by
  rintro b ⟨i,oi,h1,h2,h3⟩;rcases back i b oi h1 h2 h3 with ⟨k1,_⟩|⟨oi',k1,k2,k3,k4⟩
  ·exact .inl k1
  ·exact .inr ⟨i,oi',k1,k2,k4⟩
 refine ⟨⟨fun b hb=>by have:=hg.fin b hb;simp;omega,?_,?_,?_,?_,?_⟩,⟨rfl,rfl,rfl,by simp,fun b hb _=>Aai hb,fun b hb h=>(hown b h).resolve_left (by omega),fun _ h=>h,fun _ _ h=> .inl h,hl,fun b hb h=>(hlive b h).resolve_left (by omega)⟩⟩
 ·intro i oi hi;by_cases e:i=id
  ·subst e;rw [qw (by simp;omega)] at hi;obtain rfl:=ze hi;exact hob hl
  ·rw [qy (vf e)] at hi;rcases Aan hi with h|⟨rfl,rfl⟩
   ·have hil:=(zh.1 h).1;exact (hg.obj i oi h).mono (fun _ h=>h) hfs hl (fun _=>⟨e1 i hil,e2 i hil e⟩) (fun hd b hb=>Aai (hg.ltB i oi b h hd hb))
   ·trivial
 ·intro i j oi oj b hi hj hdi hdj bi bj;rcases back i b oi hi hdi bi with ⟨k1,k2,_⟩|⟨oi',k1,k2,k3,k4⟩<;>rcases back j b oj hj hdj bj with ⟨q1,q2,_⟩|⟨oj',q1,q2,q3,q4⟩
  ·exact k2.trans q2.symm
  ·have:=hg.ltB j oj' b q1 q2 q4;omega
  ·have:=hg.ltB i oi' b k1 k2 k4;omega
  ·exact hg.inj i j oi' oj' b k1 q1 k2 q2 k4 q4
 ·intro b h hf;rcases hown b h with rfl|h
  ·exact absurd (hg.fin _ hf) (by omega)
  ·exact hg.sep b h hf
 ·intro i oi b hi hdi hri hb;rcases back i b oi hi hdi hb with ⟨_,_,rfl⟩|⟨oi',k1,k2,k3,k4⟩
  ·rw [hr] at hri;contradiction
  ·exact hg.rof i oi' b k1 k2 (k3 ▸ hri) k4
 ·intro i oi hi hdi;by_cases e:i=id
  ·subst e;obtain ⟨n1,n2⟩:=hg.nd i o ho (Aa4 hro);rw [e3,e1 i hid];refine ⟨vw.2 ⟨fun hm=> ?_,n1⟩,fun b hb hm=> ?_⟩
   ·have:=hg.ltB i o _ ho (Aa4 hro) (.inr hm);omega
   ·rcases qf.1 hm with rfl|hm
    ·have:=hg.ltB i o _ ho (Aa4 hro) (.inl hb);omega
    ·exact n2 b hb hm
  ·rw [qy (vf e)] at hi;rcases Aan hi with h|⟨rfl,rfl⟩
   ·have hil:=(zh.1 h).1;rw [e1 i hil,e2 i hil e];exact hg.nd i oi h hdi
   ·simp [Ob.isDead] at hdi
theorem Acl {ι:Io} {F:Nat→Prop} {w:World} {H:Heap} (hg:Good ι F w H):Good ι F w.drew H∧Step ι F H w ι F H w.drew:=by
 have hl: ∀i oi,H[i]?=some oi→ ∃o'',H[i]?=some o''∧Like ι ι w w.drew i oi o'':=fun i oi hi=>⟨oi,hi,Like.refl ι w i oi⟩
 exact ⟨⟨hg.fin,fun id o h=>ObR.mono (w:=w) (w':=w.drew) (fun _ h=>h) (fun _ _=>rfl) hl (fun _=>⟨rfl,rfl⟩) (fun _ _ _=>rfl) (hg.obj id o h),hg.inj,hg.sep,hg.rof,hg.nd⟩,
  ⟨rfl,rfl,rfl,qn _,fun _ _ _=>rfl,fun _ _ h=>h,fun _ h=>h,fun _ _ h=> .inl h,hl,fun _ _ h=>h⟩⟩
theorem AlW {ι:Io} {F:Nat→Prop} {w:World} {H:Heap} (hg:Good ι F w H) (o:Obj):
  Good ι (fun b=>F b∨b=w.heap.size) (w.alloc o) H∧Step ι F H w ι (fun b=>F b∨b=w.heap.size) H (w.alloc o):=by
 have hl: ∀i oi,H[i]?=some oi→ ∃o'',H[i]?=some o''∧Like ι ι w (w.alloc o) i oi o'':=
  fun i oi hi=>⟨oi,hi,Like.of rfl fun hd b hb=>Aai (hg.lt i _ b hi hd hb)⟩
 have hlt: ∀b,Own ι H b→b<w.heap.size:=by
  rintro b ⟨id,ob,h1,h2,h3⟩;exact hg.ltB id ob b h1 (Aa4 h2) h3
 refine ⟨⟨?_,fun id ob h=>(hg.obj id ob h).mono (fun _ h=> .inl h) (fun b hb=>Aai (hg.fin b hb)) hl (fun _=>⟨rfl,rfl⟩) (fun hd b hb=>Aai (hg.ltB id ob b h hd hb)),hg.inj,?_,fun id ob b h hd hr hb=> .inl (hg.rof id ob b h hd hr hb),hg.nd⟩,
  ⟨rfl,rfl,rfl,by simp,fun b hb _=>Aai hb,fun _ _ h=>h,fun _ h=> .inl h,?_,hl,fun _ _ h=>h⟩⟩
 ·rintro b (h|rfl)
  ·have:=hg.fin b h;simp;omega
  ·simp
 ·rintro b ho (h|rfl)
  ·exact hg.sep b ho h
  ·exact absurd (hlt _ ho) (by omega)
 ·rintro b hb (h|rfl)
  ·exact .inl h
  ·omega
def Fl (ι:Io) (H:Heap) (l:List Nat) (b:Nat):Prop:= ∃i o,i∈l∧H[i]?=some o∧o.isDead=false∧ι i=some b
theorem Acj: ∀(H:Heap) (n:Nat) (l:List Nat) (i:Nat),(roAll n l H)[i]?=(H[i]?).map fun o=>if n+i∈l then roOb o else o
 | [],n,l,i=>by simp [roAll]
 |o::r,n,l,i=>by
  have key:roAll n l (o::r)=(if n∈l then roOb o else o)::roAll (n+1) l r:=by
   have e:roAll n l (o::r)=match mem l n with|true=>roOb o::roAll (n+1) l r|false=>o::roAll (n+1) l r:=rfl
   rw [e];by_cases h:n∈l
   ·rw [if_pos h,mem_iff.2 h]
   ·have:mem l n=false:=by
     cases hm:mem l n with
     |true=>exact absurd (mem_iff.1 hm) h
     |false=>rfl
    rw [if_neg h,this]
  rw [key];cases i with
  |zero=>simp
  |succ i=>
   simp only [yv,Acj r (n+1) l i];congr 1;funext o;rw [show n+1+i=n+(i+1) by omega]
theorem Ab8: ∀ {vs:List V},noShut vs=true→ ∀(i:Nat) v,vs[i]?=some v→v.shut=false
 | [],_,i,v,h=>by simp at h
 |x::r,hn,i,v,h=>by
  unfold noShut at hn;split at hn
  ·contradiction
  ·rename_i hx;cases i with
   |zero=>simp at h;subst h;exact hx
   |succ i=>exact Ab8 hn i v (by simpa using h)
theorem Aqj {ι:Io} {F:Nat→Prop} {w:World} {H:Heap} {id s:Nat} {v:V} {r:Bool} (h:ObR ι F w H id (.one s v r)) (hn:noShut v.cells=true):ι.hid id= []:=by
 obtain ⟨h1,h2,h0,b,cs,e,fp,h3,h4,h5,h6,h7,h8⟩:=h;rw [h8,List.flatMap_eq_nil_iff];intro j hj;simp at hj;have hvl:v.cells.length=v.size:=rfl;have hx:v.cells[j]?=some (v.cells[j]'(by omega)):=zt _;exact ((h7 j _ _ hx (qp (by omega))).open (Ab8 hn j _ hx)).2
theorem AlF {ι:Io} {F:Nat→Prop} {w:World} {H:Heap} (hg:Good ι F w H) (l:List Nat):
  Good ι (fun b=>F b∨Fl ι H l b) w (roAll 0 l H)∧Step ι F H w ι (fun b=>F b∨Fl ι H l b) (roAll 0 l H) w:=by
 have get: ∀i o',(roAll 0 l H)[i]?=some o'→ ∃o,H[i]?=some o∧o'=if i∈l then roOb o else o:=by
  intro i o' h;rw [Acj] at h;simp at h;obtain ⟨o,h1,h2⟩:=h;exact ⟨o,h1,h2.symm⟩
 have dead: ∀o:Ob,(roOb o).isDead=false→o.isDead=false:=fun o=>by cases o<;>simp [roOb,Ob.isDead]
 have ro: ∀o:Ob,(roOb o).ro=true:=fun o=>by
  cases o with
  |one s v r=>simp only [roOb];cases noShut v.cells<;>rfl
  |_=>rfl
 have hidro: ∀i o,H[i]?=some o→(roOb o).isDead=false→ι.hid i= []:=by
  intro i o h hd;have hob:=hg.obj i o h;cases o with
  |dead=>simp [roOb,Ob.isDead] at hd
  |arr s xs sp r=>exact hob.2.1
  |one s v r=>
   simp only [roOb] at hd;split at hd
   ·rename_i hn;exact Aqj hob hn
   ·simp [Ob.isDead] at hd
  |vec s xs ps=>simp [roOb,Ob.isDead] at hd
  |map ks xs ps=>simp [roOb,Ob.isDead] at hd
  |iter ks vs s=>simp [roOb,Ob.isDead] at hd
  |rng ks xs ps it s=>simp [roOb,Ob.isDead] at hd
  |hand m=>simp [roOb,Ob.isDead] at hd
  |pool bs xs=>simp [roOb,Ob.isDead] at hd
 have likeRo: ∀(i:Nat) (o:Ob),Like ι ι w w i o (roOb o):=by
  intro i o;unfold Like;cases o with
  |dead=>exact .inl rfl
  |one s v r=>
   cases hn:noShut v.cells with
   |true=>simp only [roOb,hn];exact .inr ⟨trivial,v,true,rfl⟩
   |false=>simp only [roOb,hn];exact .inl trivial
  |arr s xs sp r=>exact .inr ⟨rfl,fun _ _=>rfl,xs,sp,true,rfl,rfl⟩
  |vec s xs ps=>exact .inl rfl
  |map ks xs ps=>exact .inl rfl
  |iter ks vs s=>exact .inl rfl
  |rng ks xs ps it s=>exact .inl rfl
  |hand m=>exact .inl rfl
  |pool bs xs=>exact .inl rfl
 have hl: ∀i oi,H[i]?=some oi→ ∃o'',(roAll 0 l H)[i]?=some o''∧Like ι ι w w i oi o'':=by
  intro i oi hi;refine ⟨if i∈l then roOb oi else oi,by rw [Acj,hi];simp,?_⟩;split
  ·exact likeRo i oi
  ·exact Like.refl ι w i oi
 have hown: ∀b,Own ι (roAll 0 l H) b→ ∃id o,H[id]?=some o∧o.ro=false∧Blk ι id b∧id∉l:=by
  rintro b ⟨i,o',h1,h2,h3⟩;obtain ⟨o,h4,h5⟩:=get i o' h1;split at h5
  ·subst h5;rw [ro o] at h2;contradiction
  ·subst h5;exact ⟨i,_,h4,h2,h3,by assumption⟩
 have hown': ∀b,Own ι (roAll 0 l H) b→Own ι H b:=fun b h=>by obtain ⟨i,o,h1,h2,h3,_⟩:=hown b h;exact ⟨i,o,h1,h2,h3⟩
 have hlive: ∀b,Live ι (roAll 0 l H) b→Live ι H b:=by
  rintro b ⟨i,o',h1,h2,h3⟩;obtain ⟨o,h4,h5⟩:=get i o' h1;exact ⟨i,o,h4,by subst h5;split at h2;exact dead _ h2;exact h2,h3⟩
 refine ⟨⟨?_,?_,?_,?_,?_,?_⟩,⟨rfl,rfl,rfl,qn _,fun _ _ _=>rfl,fun b _ h=>hown' b h,fun _ h=> .inl h,?_,hl,fun b _ h=>hlive b h⟩⟩
 ·rintro b (h|⟨i,o,_,h1,h2,h3⟩)
  ·exact hg.fin b h
  ·exact hg.lt i o b h1 h2 h3
 ·intro id o' h;obtain ⟨o,h1,h2⟩:=get id o' h;have key:=(hg.obj id o h1).mono (F':=fun b=>F b∨Fl ι H l b) (w':=w) (fun _ h=> .inl h) (fun _ _=>rfl) hl (fun _=>⟨rfl,rfl⟩) (fun _ _ _=>rfl);have hh:=hidro id o h1;subst h2;split
  ·cases o with
   |one s v r=>
    simp only [roOb] at hh⊢;split
    ·rename_i hn;rw [hn] at hh;exact ⟨key.1,key.2.1,fun _=>hh rfl,key.2.2.2⟩
    ·trivial
   |arr s xs sp r=>exact key
   |_=>trivial
  ·exact key
 ·intro i j oi oj b hi hj hdi hdj bi bj;obtain ⟨oi',h1,h2⟩:=get i oi hi;obtain ⟨oj',h3,h4⟩:=get j oj hj;refine hg.inj i j oi' oj' b h1 h3 ?_ ?_ bi bj
  ·subst h2;split at hdi;exact dead _ hdi;exact hdi
  ·subst h4;split at hdj;exact dead _ hdj;exact hdj
 ·rintro b ho (hf|⟨i,o,hi,h1,h2,h3⟩)
  ·exact hg.sep b (hown' b ho) hf
  ·obtain ⟨j,oj,k1,k2,k3,k4⟩:=hown b ho;have:i=j:=hg.inj i j o oj b h1 k1 h2 (Aa4 k2) (.inl h3) k3;subst this;exact k4 hi
 ·intro id o' b h hd hr hb;obtain ⟨o,h1,h2⟩:=get id o' h;split at h2
  ·rename_i hm;subst h2;rcases hb with hb|hb
   ·exact .inr ⟨id,o,hm,h1,dead _ hd,hb⟩
   ·rw [hidro id o h1 hd] at hb;simp at hb
  ·subst h2;exact .inl (hg.rof id _ b h1 hd hr hb)
 ·intro id o' h hd;obtain ⟨o,h1,h2⟩:=get id o' h;refine hg.nd id o h1 ?_;subst h2;split at hd
  ·exact dead _ hd
  ·exact hd
 ·rintro b _ (hf|⟨i,o,hi,h1,h2,h3⟩)
  ·exact .inl hf
  ·cases hr:o.ro with
   |true=>exact .inl (hg.rof i o b h1 h2 hr (.inl h3))
   |false=>exact .inr ⟨i,o,h1,hr,.inl h3⟩
end Go.Eva
namespace Go.Eva
open Go.RowKit
theorem TR.int_inv {F:Nat→Prop} {w:World} {k:IntKind} {n:Int} {v:Value} (h:TR F w (.int k n) v):v= .int k n:=by cases h;rfl
theorem TR.bool_inv {F:Nat→Prop} {w:World} {b:Bool} {v:Value} (h:TR F w (.bool b) v):v= .bool b:=by cases h;rfl
theorem TR.str_inv {F:Nat→Prop} {w:World} {s:ByteArray} {v:Value} (h:TR F w (.str s) v):v= .string s:=by cases h;rfl
section
variable {ι:Io} {F:Nat→Prop} {w:World} {H:Heap}
theorem VR.t_inv {x:T} {v:Value} (h:VR ι F w H (.t x) v):TR F w x v:=by cases h;assumption
theorem VR.pin_inv {u v:Value} (h:VR ι F w H (.t (.pin v)) u):u=v:=by
 have:=h.t_inv;cases this;rfl
theorem Ajc: ∀ {v:Value} {x:T},constT v=some x→TR F w x v:=by
 intro v x h;unfold constT at h;split at h<;>simp at h<;>subst h
 ·exact .int _ _
 ·exact .bool _
 ·exact .str _
 ·exact .nilp
 ·exact .nilf
 ·exact .nilm
theorem Ahy: ∀ {vs:List Value} {l:List T},constTs vs=some l→vs.length=l.length∧ ∀(i:Nat) x c,l[i]?=some x→vs[i]?=some c→TR F w x c∧c.oneCell'=true
 | [],l,h=>by simp [constTs] at h;subst h;simp
 |v::r,l,h=>by
  simp only [constTs] at h;split at h
  ·rename_i x l' hx hl;simp at h;subst h;obtain ⟨h1,h2⟩:=Ahy hl;refine ⟨by simp [h1],?_⟩;intro i y c hy hc;cases i with
   |zero=>
    simp at hy hc;subst hy;subst hc;refine ⟨Ajc hx,?_⟩;unfold constT at hx;split at hx<;>simp_all [ur]
   |succ i=>simp at hy hc;exact h2 i y c hy hc
  ·contradiction
theorem AmZ (v:Value):VR ι F w H (constV v) v:=by
 unfold constV;split
 ·exact .nil
 ·rename_i cs;split
  ·rename_i l hl;obtain ⟨h1,h2⟩:=Ahy (F:=F) (w:=w) hl;refine .t _ _ (.agg _ _ (by simpa using h1.symm) ?_ ?_)
   ·intro i c hc;have hlt:i<cs.size:=(zu.1 hc).1;have: ∃x,l[i]?=some x:=⟨_,zt (by rw [←h1];simpa using hlt)⟩
    obtain ⟨x,hx⟩:=this;exact (h2 i x c hx (by simpa using hc)).2
   ·intro i x c hx hc;exact (h2 i x c hx (by simpa using hc)).1
  ·exact .t _ _ (.any _)
 ·split
  ·rename_i x hx;exact .t _ _ (Ajc hx)
  ·exact .t _ _ (.any _)
def Sim (ι:Io) (F:Nat→Prop) (w:World) (H:Heap) (e:Env) (a:Act):Prop:= ∀t,VR ι F w H (look e t) (a.tmps.getD t undef)
theorem ApI {v:V} {u:Value} (h:VR ι F w H v u):VR ι F w H (bare v) u:=by
 unfold bare;cases h<;>first|exact .t _ _ (by assumption)|(constructor<;>assumption)
theorem Aaj {e:Env} {a:Act} (h:Sim ι F w H e a) (x:Operand):VR ι F w H (evalO e x) (a.eval x):=by
 cases x with
 |tmp t=>exact ApI (h t)
 |const v=>exact AmZ v
 |global g=>exact .t _ _ (.any _)
 |func f=>exact .t _ _ (.clo f [] #[] rfl (by simp))
variable {S:Task→(Res→Prop)→Prop}
theorem AbN {cx:Cx} {ty:Nat} {v:V} {val:Value} {R:V→Prop} (h:wpQ S (typed cx ty v) R) (hv:VR ι F w H v val): ∃v',R v'∧VR ι F w H v' val:=by
 unfold typed at h;split at h
 ·split at h
  ·split at h
   ·have h1:=AaU (Aaa _ _ _ h);cases hv;exact ⟨_,h1,.fit _ _ _ (.slN _ _ _)⟩
   ·exact h.elim
  ·exact h.elim
 ·split at h
  ·split at h
   ·have h1:=AaU (Aaa _ _ _ h);have hv:=hv.t_inv;cases hv;exact ⟨_,h1,.fit _ _ _ (.slN _ _ _)⟩
   ·exact h.elim
  ·exact h.elim
 ·exact ⟨v,Aav h,hv⟩
theorem Agd {cx:Cx} {e:Env} {a:Act} (hs:Sim ι F w H e a): ∀ {xs:List Operand} {ts:List Nat} {R:List V→Prop},wpQ S (args cx e xs ts) R→
  ∃vs,R vs∧vs.length=xs.length∧ ∀(i:Nat) v x,vs[i]?=some v→xs[i]?=some x→VR ι F w H v (a.eval x)
 | [],ts,R,h=>⟨[],by cases ts<;>exact h,rfl,by simp⟩
 |x::xs,[],R,h=>by
  have h1:=Aav (Aaa _ _ _ h);obtain ⟨vs,h2,h3,h4⟩:=Agd hs (Aaa _ _ _ h1);refine ⟨_::vs,h2,by simp [h3],?_⟩;intro i v y hv hy;cases i with
  |zero=>simp at hv hy;subst hv;subst hy;exact Aaj hs x
  |succ i=>simp at hv hy;exact h4 i v y hv hy
 |x::xs,t::ts,R,h=>by
  obtain ⟨v',h1,hv'⟩:=AbN (Aaa _ _ _ h) (Aaj hs x);obtain ⟨vs,h2,h3,h4⟩:=Agd hs (Aaa _ _ _ h1);refine ⟨_::vs,h2,by simp [h3],?_⟩;intro i v y hv hy;cases i with
  |zero=>simp at hv hy;subst hv;subst hy;exact hv'
  |succ i=>simp at hv hy;exact h4 i v y hv hy
end
theorem Aaw {P:Program} {o:Oper} {a:Act} {w w':World} {next:Act→World→Prop} {Q:Exit→Act→World→Prop} {val:Value}
  (h:(execOp a.eval o).run P w= .ok (.value val) w') (hn:next (a.put o.dst val) w'):o.wp P a w next Q:=by
 unfold Oper.wp;rw [h];exact hn
def OpPost (R:V×Heap→Prop) (o:Oper) (ι:Io) (F:Nat→Prop) (H:Heap) (w:World) (a:Act) (a':Act) (w':World):Prop:=
 ∃v H' ι' F' val,R (v,H')∧a'=a.put o.dst val∧Good ι' F' w' H'∧Step ι F H w ι' F' H' w'∧VR ι' F' w' H' v val
section
variable {P:Program} {cx:Cx} {S:Task→(Res→Prop)→Prop} {o:Oper} {e:Env} {H:Heap} {a:Act} {w:World} {ι:Io} {F:Nat→Prop} {R:V×Heap→Prop} {Q:Exit→Act→World→Prop}
def Still (C:World→Prop) (P:Program) (R:V×Heap→Prop) (o:Oper) (ι:Io) (F:Nat→Prop) (H:Heap) (w:World) (a:Act):Prop:=
 ∃v H' ι' F' val,R (v,H')∧Good ι' F' w H'∧Step ι F H w ι' F' H' w∧VR ι' F' w H' v val∧ ∀w',C w'→(execOp a.eval o).run P w'= .ok (.value val) w'
theorem Still.wp {C:World→Prop} (h:Still C P R o ι F H w a) (hC:C w):o.wp P a w (OpPost R o ι F H w a) Q:=by
 obtain ⟨v,H',ι',F',val,h1,h2,h3,h4,h5⟩:=h;exact Aaw (h5 w hC) ⟨v,H',ι',F',val,h1,rfl,h2,h3,h4⟩
def Any (_:World):Prop:=True
theorem Aao (hg:Good ι F w H) {v:V} {val:Value} (hr:R (v,H)) (hv:VR ι F w H v val) (h: ∀w,(execOp a.eval o).run P w= .ok (.value val) w):Still Any P R o ι F H w a:=
 ⟨v,H,ι,F,val,hr,hg,.refl ι F H w,hv,fun w _=>h w⟩
theorem AiC (hg:Good ι F w H) (hs:Sim ι F w H e a) (x:Operand) (ho:o.op= .move x∨o.op= .assign x) (h:wpQ S ((typed cx o.type (evalO e x)).bind fun v=> .ret (v,H)) R):
  Still Any P R o ι F H w a:=by
 obtain ⟨v,h1,h2⟩:=AbN (Aaa _ _ _ h) (Aaj hs x);refine Aao hg h1 h2 fun w=> ?_;rcases ho with ho|ho<;>(unfold execOp;rw [ho];rfl)
theorem AnW (hg:Good ι F w H) (hs:Sim ι F w H e a) (c x y:Operand) (ho:o.op= .pick c x y) (h:wpQ S (opQ cx o e H) R):Still Any P R o ι F H w a:=by
 unfold opQ at h;rw [ho] at h;simp only at h;split at h
 ·rename_i b hb;have hc:=Aaj hs c;rw [hb] at hc;have hc:=hc.t_inv.bool_inv;cases b with
  |true=>
   have h1:=Aav (Aaa _ _ _ h);refine Aao hg h1 (Aaj hs x) fun w=> ?_;simp [execOp,ho,hc,asBool]
  |false=>
   have h1:=Aav (Aaa _ _ _ h);refine Aao hg h1 (Aaj hs y) fun w=> ?_;simp [execOp,ho,hc,asBool]
 ·exact h.elim
theorem Afo (op:BinOp) (t:TypeId) (x y:Operand) {u v:Value} (h: ∀c d,¬(u= .agg c∧v= .agg d)) (h': ¬(u= .nilIface∧v= .nilIface)):(eqGuard op t x y u v).run P w= .ok () w:=by
 unfold eqGuard;cases u<;>cases v<;>simp_all
theorem op_un (hg:Good ι F w H) (hs:Sim ι F w H e a) (op:UnOp) (t:Nat) (x:Operand) (ho:o.op= .unOp op t x) (h:wpQ S (opQ cx o e H) R):Still Any P R o ι F H w a:=by
 unfold opQ at h;rw [ho] at h;simp only at h;have h1:=Aaa _ _ _ h;have hx:=Aaj hs x;unfold unV at h1;split at h1
 ·rename_i k n hv;rw [hv] at hx;have hx:=hx.t_inv.int_inv;refine Aao hg h1 (.t _ _ (.int _ _)) fun w=> ?_;simp [execOp,ho,hx,Op.unary,ml]
 ·rename_i k n hv;rw [hv] at hx;have hx:=hx.t_inv.int_inv;refine Aao hg h1 (.t _ _ (.int _ _)) fun w=> ?_;simp [execOp,ho,hx,Op.unary,mj]
 ·rename_i b hv;rw [hv] at hx;have hx:=hx.t_inv.bool_inv;refine Aao hg h1 (.t _ _ (.bool _)) fun w=> ?_;simp [execOp,ho,hx,Op.unary]
 ·exact h1.elim
theorem AgJ (hg:Good ι F w H) (hs:Sim ι F w H e a) (x:Operand) (ho:o.op= .nilCheck x) (h:wpQ S (opQ cx o e H) R):Still Any P R o ι F H w a:=by
 unfold opQ at h;rw [ho] at h;simp only at h;have hx:=Aaj hs x;split at h
 ·rename_i i j k hv;rw [hv] at hx;have:R (.ptr i j k,H)∧ ∃ad,a.eval x= .pointer (some ad):=by
   rw [Aae] at h;cases hx with
   |ptr _ _ _ _ hp=>
    unfold OwnPtr at hp;split at h
    ·rename_i he;rw [he] at hp;obtain ⟨b,_,hb⟩:=hp;exact ⟨h,_,hb⟩
    ·rename_i he;rw [he] at hp;obtain ⟨_,b,_,hb⟩:=hp;exact ⟨h,_,hb⟩
    ·rename_i he;rw [he] at hp;obtain ⟨_,b,_,hb⟩:=hp;exact ⟨h,_,hb⟩
    ·exact h.elim
  obtain ⟨h,ad,had⟩:=this;refine Aao hg h hx fun w=> ?_;simp [execOp,ho,had]
 ·rename_i s x' j hv;rw [hv] at hx;have: ∃ad,a.eval x= .pointer (some ad):=by
   have:=hx.t_inv;generalize hq:a.eval x=q at this;cases this with
   |ip=>exact ⟨_,rfl⟩
  obtain ⟨ad,had⟩:=this;refine Aao hg h hx fun w=> ?_;simp [execOp,ho,had]
 ·rename_i ad hv;rw [hv] at hx;have had:=hx.pin_inv;refine Aao hg h hx fun w=> ?_;simp [execOp,ho,had]
 ·rename_i f cs hv;rw [hv] at hx;have:=hx.t_inv;generalize hq:a.eval x=q at this hx;cases this with
  |clo _ _ vs hl hc=>
   refine Aao hg h hx fun w=> ?_;simp [execOp,ho,hq]
 ·rename_i f cs hv;rw [hv] at hx;generalize hq:a.eval x=q at hx;cases hx with
  |clo _ _ vs hl hc=>
   refine Aao hg h (.clo _ _ _ hl hc) fun w=> ?_;simp [execOp,ho,hq]
 ·exact h.elim
theorem AgI (hg:Good ι F w H) (hs:Sim ι F w H e a) (f:Nat) (fi cs:Array Operand) (ho:o.op= .makeFunc (.func f) fi cs) (h:wpQ S (opQ cx o e H) R):Still Any P R o ι F H w a:=by
 unfold opQ at h;rw [ho] at h;simp only at h;split at h
 ·rename_i hf;obtain ⟨vs,h1,h2,h3⟩:=Agd hs (Aaa _ _ _ h);have hfi:fi= #[]:=by simpa using hf
  subst hfi;have hrun: ∀w,(execOp a.eval o).run P w= .ok (.value (.func (.func f) #[] (cs.map a.eval))) w:=by
   intro w;simp [execOp,ho,Instr.makeFunc]
  have hlen:vs.length=(cs.map a.eval).size:=by simpa using h2
  have hall: ∀(i:Nat) v (c:Value),vs[i]?=some v→(cs.map a.eval)[i]?=some c→VR ι F w H v c:=by
   intro i v c hv hc;simp at hc;obtain ⟨x,hx,rfl⟩:=hc;exact h3 i v x hv (by simpa using hx)
  split at h1
  ·rename_i l hl;have:=Ab9 hl;subst this;refine Aao hg h1 (.t _ _ (.clo _ _ _ (by simpa using hlen) ?_)) hrun;intro i x v hx hv;exact (hall i (.t x) v (by simp [hx]) hv).t_inv
  ·exact Aao hg h1 (.clo _ _ _ hlen hall) hrun
 ·exact h.elim
theorem AhH (hg:Good ι F w H) (hs:Sim ι F w H e a) (x:Operand) (i:Nat) (ho:o.op= .extract x i) (h:wpQ S (opQ cx o e H) R):Still Any P R o ι F H w a:=by
 unfold opQ at h;rw [ho] at h;simp only at h;have hx:=Aaj hs x;split at h
 ·rename_i vs hv;rw [hv] at hx;generalize hq:a.eval x=q at hx;cases hx with
  |tup _ cs hl hc=>
   split at h
   ·rename_i v hn;rw [Aae] at hn;have h1:=Aav (Aaa _ _ _ h);have hlt:=(zh.1 hn).1;have hcs:cs[i]?=some cs[i]:=by simp
    refine Aao hg h1 (hc i v _ hn hcs) fun w=> ?_;simp [execOp,ho,hq,Instr.extract,hcs]
   ·exact h.elim
 ·exact h.elim
end
end Go.Eva
namespace Go.Eva
open Go.RowKit
def notAgg:TypeDesc→Prop
 | .struct _=>False
 | .array _ _=>False
 |_=>True
def TyR (cx:Cx):Ty→TypeDesc→Prop
 | .int k,d=>d= .int k
 | .bool,d=>d= .bool
 | .str,d=>d= .string
 | .ptr,d=> ∃e,d= .pointer e
 | .fn,d=>notAgg d
 | .slice e,d=>d= .slice e∧ ∃i,cx.ti.get e=some i∧0<i.size
 | .struct fs, d => ∃ fields : Array Field, d = .struct fields ∧ fields.toList.map (fun f => (f.offset, f.type)) = fs ∧ ∀ f ∈ fields.toList, f.name ≠ "_" ∧ ∃ i, cx.ti.get f.type = some i
 | .map k e,d=>d= .map k e
 | .other,d=>notAgg d
def ZV (s:Nat) (z:V) (zv:Value):Prop:=(∀ι F w H,VR ι F w H z zv)∧(∀(i:Nat) c,zv.cells[i]?=some c→c.oneCell'=true)∧z≠ .t .any∧z.size=s∧zv.cells.size=s
def ExOK (P:Program) (cx:Cx) (f:Nat):Xf→Prop
 | .overlaps t => ∃ fn, P.funcs[f]? = some fn ∧ (fn.name == "runtime.NumGoroutine") = false ∧ fn.body.isNone = true ∧ Extern.findNext fn = none ∧ Extern.find fn = some (Extern.SlicesOverlaps.overlaps fn.params fn.resultTypes) ∧
  fn.params[0]?=some t∧ ∃el,elemTy cx t=some el
 | .keys gs=>(∀args w,(callFunc f args).run P w= .ok (.enter f args) w)∧ ∀g∈gs,∀(w:World) (Bm b:Nat) (es:Array MapEntry) (clock:Nat) (zs:List Int),w.cell? ⟨Bm,0,none⟩=some (.map (some b))→w.heap[b]?=some (.map es clock)→EntOk es clock→
  es.size=zs.length→(∀(i:Nat) (z:Int) (e:MapEntry),zs[i]?=some z→es[i]?=some e→e.key= .int .i64 z)→goodI zs=true→zs.length≤1000000→
  Calls P f #[.func (.func g) #[] #[.pointer (some ⟨Bm,0,none⟩)]] w fun en w'=> ∃v,en= .returned v∧TR (fun k=>w.heap.size≤k∧k<w'.heap.size) w' (.sl 1 ((sortI zs).map (.int .i64))) v∧Below w.heap.size w w'
 | .twin=>(∀args w,(callFunc f args).run P w= .ok (.enter f args) w)∧(∀(w:World),Calls P f #[.map none] w fun e w'=>e= .returned (.map none)∧w'=w)∧
  ∀(w:World) (b:Nat) (es:Array MapEntry) (clock:Nat),w.heap[b]?=some (.map es clock)→Calls P f #[.map (some b)] w fun e w'=>e= .returned (.map (some w.heap.size))∧w'=w.alloc (.map es clock)
structure CxTy (P:Program) (cx:Cx):Prop where
 ty: ∀t i,cx.ti.get t=some i→ ∃inf d,P.info? t=some inf∧P.underlying t=some d∧inf.size=i.size∧inf.bytes=i.bytes∧TyR cx i.ty d∧
  (i.eq=true→P.stoodInHeld t=false∧P.eqGuardType P.depth t=false)∧(∃zv,inf.zero=some zv∧ ∀z,zeroV cx depth t=some z→ZV i.size z zv)
 zc: ∀t i inf zv,cx.ti.get t=some i→P.info? t=some inf→inf.zero=some zv→0<i.bytes→zv.cells.size=i.size∧ ∀(j:Nat) c,zv.cells[j]?=some c→c.oneCell'=true
 orders:P.follows .mixedOrders=true
 ex: ∀f x,exAt cx.ex f=some x→ExOK P cx f x
section
variable {P:Program} {cx:Cx} (hc:CxTy P cx)
include hc
theorem AbL {t:Nat} {i:TI} (h:cx.ti.get t=some i) (w:World):(isAgg t).run P w= .ok (isStruct cx t) w:=by
 obtain ⟨inf,d,h1,h2,h3,h4,h5,_⟩:=hc.ty t i h;unfold isAgg;rw [xy,run_underlying h2 w];simp only [j4];have:isStruct cx t=match d with| .struct _=>true| .array _ _=>true|_=>false:=by
  unfold isStruct;rw [h];cases i with
  |mk ty s b eq=>
   cases ty<;>simp only [TyR] at h5<;>first
    |(subst h5;rfl)
    |(obtain ⟨e,rfl⟩:=h5;rfl)
    |(obtain ⟨rfl,_⟩:=h5;rfl)
    |(obtain ⟨fs,rfl,_⟩:=h5;rfl)
    |(cases d<;>first|rfl|exact h5.elim)
 rw [this];cases d<;>rfl
theorem Aa8 {t:Nat} {i:TI} (h:cx.ti.get t=some i) (w:World):(Go.sizeOf t).run P w= .ok (sizeOf cx t) w:=by
 obtain ⟨inf,d,h1,h2,h3,h4,h5,_⟩:=hc.ty t i h;simp [Go.sizeOf,typeInfo,h1,h3,sizeOf,h]
theorem AkZ {t f off ft:Nat} (h:fieldAt cx t f=some (off,ft)): ∃fields:Array Field,∃fd:Field,P.underlying t=some (.struct fields)∧fields[f]?=some fd∧fd.offset=off∧fd.type=ft∧ ∃i,cx.ti.get ft=some i:=by
 unfold fieldAt at h;split at h
 ·rename_i fs s b eq hget;obtain ⟨inf,d,h1,h2,h3,h4,h5,_⟩:=hc.ty _ _ hget;simp only [TyR] at h5;obtain ⟨fields,rfl,hm,hall⟩:=h5;rw [Aae,←hm] at h;simp at h;obtain ⟨fd,hfd,h6,h7⟩:=h;refine ⟨fields,fd,h2,by simpa using hfd,h6,h7,?_⟩;have hmem:fd∈fields.toList:=by
   simp;obtain ⟨hlt,rfl⟩:=zu.1 hfd;exact Array.getElem_mem hlt
  have:=(hall fd hmem).2
  rwa [h7] at this
 ·contradiction
theorem AbA {t el:Nat} (h:elemTy cx t=some el):P.underlying t=some (.slice el)∧ ∃i inf,cx.ti.get el=some i∧0<i.size∧P.info? el=some inf∧inf.size=i.size∧inf.bytes=i.bytes∧sizeOf cx el=i.size∧bytesOf cx el=i.bytes:=by
 unfold elemTy at h;split at h
 ·rename_i e' s b eq hget;simp at h;subst h;obtain ⟨inf,d,h1,h2,h3,h4,h5,_⟩:=hc.ty _ _ hget;simp only [TyR] at h5;obtain ⟨rfl,i,hi,hpos⟩:=h5;obtain ⟨inf',d',k1,k2,k3,k4,_⟩:=hc.ty _ _ hi;exact ⟨h2,i,inf',hi,hpos,k1,k3,k4,by simp [sizeOf,hi],by simp [bytesOf,hi]⟩
 ·contradiction
end
section
variable {P:Program} {cx:Cx} {S:Task→(Res→Prop)→Prop} {o:Oper} {e:Env} {H:Heap} {a:Act} {w:World} {ι:Io} {F:Nat→Prop} {R:V×Heap→Prop} {Q:Exit→Act→World→Prop}
theorem AhG (hc:CxTy P cx) (hg:Good ι F w H) (hs:Sim ι F w H e a) (src dst:Nat) (x:Operand) (ho:o.op= .convert src dst x) (hsrc: ∃i,cx.ti.get src=some i) (h:wpQ S (opQ cx o e H) R):
  Still Any P R o ι F H w a:=by
 unfold opQ at h;rw [ho] at h;simp only at h;have hx:=Aaj hs x;split at h
 ·rename_i k' n k hv hk;rw [hv] at hx;have hx:=hx.t_inv.int_inv;unfold intTy at hk;split at hk
  ·rename_i kk s b eq hget;simp at hk;subst hk;obtain ⟨inf,d,h1,h2,h3,h4,h5,_⟩:=hc.ty _ _ hget;simp only [TyR] at h5;subst h5;obtain ⟨i',hi'⟩:=hsrc;obtain ⟨inf',d',k1,k2,_⟩:=hc.ty _ _ hi';refine Aao hg h (.t _ _ (.int _ _)) fun w=> ?_;simp [execOp,ho,hx,convert,run_underlying k2,run_underlying h2,Conv.intToInt]
  ·contradiction
 ·exact h.elim
theorem AaW (b o n:Nat):(⟨b,o,none⟩:Addr).add n=⟨b,o+n,none⟩:=by unfold Addr.add;split<;>simp_all
theorem Af3 (hc:CxTy P cx) (hg:Good ι F w H) (hs:Sim ι F w H e a) (t:Nat) (x:Operand) (f:Nat) (ho:o.op= .fieldAddr t x f) (h:wpQ S (opQ cx o e H) R):
  Still Any P R o ι F H w a:=by
 unfold opQ at h;rw [ho] at h;simp only at h;have hx:=Aaj hs x;have run: ∀(b j off ft:Nat),fieldAt cx t f=some (off,ft)→qd (sizeOf cx ft) 0=false→a.eval x= .pointer (some ⟨b,j,none⟩)→ ∀w,(execOp a.eval o).run P w= .ok (.value (.pointer (some ⟨b,j+off,none⟩))) w:=by
  intro b j off ft hf hz hp w;obtain ⟨fields,fd,h1,h2,h3,h4,i,h5⟩:=AkZ hc hf;have hsz:=Aa8 hc h5 w;rw [←h4] at hsz;have hnz:sizeOf cx fd.type≠0:=by rw [h4];exact pd hz
  simp [execOp,ho,hp,Instr.fieldAt,run_underlying h1,h2,ma,fieldPlace,AaW,h3,hsz,hnz]
 split at h
 ·rename_i off ft id i j hf hv;rw [hv] at hx;rw [Aae] at h;cases hx with
  |ptr _ _ _ _ hp=>
   unfold OwnPtr at hp;split at h
   ·rename_i hh hz;have h1:=AaU (Aaa _ _ _ h);rw [hh] at hp;obtain ⟨b,hb,he⟩:=hp;refine Aao hg h1 (.ptr _ _ _ _ ?_) (run b j off ft hf hz he);unfold OwnPtr;rw [hh];exact ⟨b,hb,rfl⟩
   ·rename_i hh hz;have h1:=AaU (Aaa _ _ _ h);rw [hh] at hp;obtain ⟨hi,b,hb,he⟩:=hp;refine Aao hg h1 (.ptr _ _ _ _ ?_) (run b _ off ft hf hz he);unfold OwnPtr;rw [hh];exact ⟨hi,b,hb,by simp [wr]⟩
   ·rename_i hh hz;have h1:=AaU (Aaa _ _ _ h);rw [hh] at hp;obtain ⟨hi,b,hb,he⟩:=hp;refine Aao hg h1 (.ptr _ _ _ _ ?_) (run b _ off ft hf hz he);unfold OwnPtr;rw [hh];exact ⟨hi,b,hb,by simp [wr]⟩
   ·exact h.elim
 ·rename_i off ft s x' j hf hv;rw [hv] at hx;split at h
  ·exact h.elim
  ·rename_i hz;have h1:=AaU (Aaa _ _ _ h);have:=hx.t_inv;generalize hq:a.eval x=q at this;cases this with
   |ip _ _ _ b o' c hF hx' hcc hl hr=>
    refine Aao hg h1 (.t _ _ ?_) (run b (o'+j) off ft hf hz hq);have:=TR.ip (F:=F) (w:=w) s x' (j+off) b o' c hF hx' hcc hl hr;simpa [wr] using this
 ·rename_i off ft b j hf hv;rw [hv] at hx;split at h
  ·exact h.elim
  ·rename_i hz;have h1:=AaU (Aaa _ _ _ h);exact Aao hg h1 (.t _ _ (.pin _ rfl)) (run b j off ft hf hz hx.pin_inv)
 ·exact h.elim
end
end Go.Eva
namespace Go.Eva
open Go.RowKit
section
variable {P:Program} {cx:Cx} {S:Task→(Res→Prop)→Prop} {w:World} {ι:Io} {F:Nat→Prop} {H:Heap}
theorem Af8 (hc:CxTy P cx) {t:Nat} {i:TI} (hi:cx.ti.get t=some i) (hst:isStruct cx t=true) (cs:Array Value) (off:Nat):
  (part t cs off).run P w= .ok (.agg (cs.extract off (off+sizeOf cx t))) w:=by
 simp [part,AbL hc hi,hst,Aa8 hc hi]
theorem Adk (hc:CxTy P cx) {t:Nat} {i:TI} (hi:cx.ti.get t=some i) (hst:isStruct cx t=false) (cs:Array Value) (off:Nat) {v:Value} (hv:cs[off]?=some v):
  (part t cs off).run P w= .ok v w:=by
 simp [part,AbL hc hi,hst,hv]
theorem AoG (w0:World) (hc:CxTy P cx): ∀(n d t:Nat) (x y:T) (u v:Value),n≤d→conform cx n t x=true→conform cx n t y=true→TR F w x u→TR F w y v→
  (gd d t u v).run P w0= .ok (teq x y) w0:=by
 intro n;induction n with
 |zero=>intro d t x y u v _ h;simp [conform] at h
 |succ n ih=>
  intro d t x y u v hd hx hy hu hv;obtain ⟨d,rfl⟩: ∃m,d=m+1:=⟨d-1,by omega⟩
  unfold conform at hx hy;cases hget:cx.ti.get t with
  |none=>simp [hget] at hx
  |some i=>
   rw [hget] at hx hy;simp only at hx hy;obtain ⟨inf,ds,h1,h2,h3,h4,h5,h6,_⟩:=hc.ty t i hget;cases hty:i.ty with
   |int k=>
    rw [hty] at hx hy h5;cases x<;>simp at hx;cases y<;>simp at hy;subst hx;subst hy;rw [hu.int_inv,hv.int_inv];simp only [TyR] at h5;subst h5;rw [run_equalIn_int w0 d t k k _ _ h2];congr 1;rename_i a b;by_cases e:a=b
    ·subst e;simp [Ael.2]
    ·have:teq (T.int k a) (T.int k b)=false:=by rw [AeP];simp [e]
     rw [this];simpa using e
   |bool=>
    rw [hty] at hx hy h5;cases x<;>simp at hx;cases y<;>simp at hy;rw [hu.bool_inv,hv.bool_inv];simp only [TyR] at h5;subst h5;rw [run_equalIn_bool' w0 d t _ _ h2];congr 1;rename_i a b;by_cases e:a=b
    ·subst e;simp [Ael.2]
    ·have:teq (T.bool a) (T.bool b)=false:=by rw [AeP];simp [e]
     rw [this];simpa using e
   |struct fs=>
    rw [hty] at hx hy h5;cases x<;>simp at hx;cases y<;>simp at hy;rename_i vs us;simp only [TyR] at h5;obtain ⟨fields,rfl,hm,hall⟩:=h5;obtain ⟨hp,_⟩:=h6 hx.1;cases hu with
    |agg _ cs hl1 ho1 hc1=>
    cases hv with
    |agg _ ds hl2 ho2 hc2=>
    have hfo:P.fieldsOf t=fields:=by simp [Program.fieldsOf,h2]
    rw [run_equalIn_struct w0 d t cs ds (by rw [hfo];exact h2) hp,hfo];have key : ∀ (fl : List Field) (pos : Nat) (az bs : List T), (∀ f ∈ fl, f.name ≠ "_" ∧ ∃ i, cx.ti.get f.type = some i) → conformF cx (conform cx n) pos (fl.map fun f => (f.offset, f.type)) az = true →
      conformF cx (conform cx n) pos (fl.map fun f=>(f.offset,f.type)) bs=true→vs.drop pos=az→us.drop pos=bs→pos+az.length=vs.length→pos+bs.length=us.length→
      (ny d cs ds fl).run P w0= .ok (@decide (az=bs) (dl _)) w0:=by
     intro fl;induction fl with
     |nil=>
      intro pos az bs _ h7 h8 _ _ _ _;simp only [List.map_nil] at h7 h8;cases az with
      |cons _ _=>simp [conformF] at h7
      |nil=>cases bs with
       |cons _ _=>simp [conformF] at h8
       |nil=>simp [ny]
     |cons f fl ihf=>
      intro pos az bs hfl h7 h8 ha hb hla hlb;obtain ⟨hname,fi,hfi⟩:=hfl f (by simp);simp only [qo,conformF,zf] at h7 h8;obtain ⟨hoff,h7⟩:=h7;obtain ⟨_,h8⟩:=h8;have hoff:=zp hoff;simp only [ny];cases hst:isStruct cx f.type with
      |true=>
       rw [hst] at h7 h8;simp only [zf,Nat.ble_eq] at h7 h8;obtain ⟨⟨h7a,h7b⟩,h7c⟩:=h7;obtain ⟨⟨h8a,h8b⟩,h8c⟩:=h8;generalize hsz:sizeOf cx f.type=sz at*;have part_tr: ∀(ws az':List T) (zs:Array Value),ws.length=zs.size→(∀(i:Nat) c,zs[i]?=some c→c.oneCell'=true)→(∀(i:Nat) x c,ws[i]?=some x→zs[i]?=some c→TR F w x c)→ws.drop pos=az'→sz≤az'.length→pos+az'.length=ws.length→
         TR F w (.agg (az'.take sz)) (.agg (zs.extract pos (pos+sz))):=by
        intro ws az' zs hlen hone htr hdrop hle hpos;refine .agg _ _ ?_ ?_ ?_
        ·simp;omega
        ·intro i c hi;rw [py] at hi;split at hi
         ·exact hone _ c hi
         ·contradiction
        ·intro i x c hx' hc';rw [py] at hc';split at hc'
         ·refine htr (pos+i) x c ?_ hc';rw [ji] at hx';split at hx'
          ·rw [←hdrop,xh] at hx';exact hx'
          ·contradiction
         ·contradiction
       have t1:=part_tr vs az cs hl1 ho1 hc1 ha h7a hla;have t2:=part_tr us bs ds hl2 ho2 hc2 hb h8a hlb;have e1:=ih d f.type _ _ _ _ (by omega) h7b h8b t1 t2;have ihr:=ihf (pos+sz) (az.drop sz) (bs.drop sz) (fun f hf=>hfl f (by simp [hf])) h7c h8c (by rw [←ha,yc]) (by rw [←hb,yc]) (by simp;omega) (by simp;omega);simp only [hname,ne_eq,not_false_eq_true,if_true,xy,hoff,Af8 hc hfi hst,hsz,j4,e1];cases hq:teq (T.agg (az.take sz)) (T.agg (bs.take sz)) with
       |true=>
        rw [Ael] at hq;have hq:az.take sz=bs.take sz:=by simpa using hq
        simp only [Bool.not_true,xq,if_false];rw [ihr];congr 1;rw [decide_eq_decide];constructor
        ·intro h;rw [←jd sz az,←jd sz bs,hq,h]
        ·intro h;rw [h]
       |false=>
        rw [AeP] at hq;simp only [Bool.not_false,if_true,ve];congr 1;symm;rw [decide_eq_false_iff_not];intro h;exact hq (by rw [h])
      |false=>
       rw [hst] at h7 h8;simp only at h7 h8;cases az with
       |nil=>simp at h7
       |cons x az=>
       cases bs with
       |nil=>simp at h8
       |cons y bs=>
       simp only [zf] at h7 h8;have hvx:vs[pos]?=some x:=by
        have:=congrArg (fun l=>l[0]?) ha;simpa [xh] using this
       have huy:us[pos]?=some y:=by
        have:=congrArg (fun l=>l[0]?) hb;simpa [xh] using this
       have h9:pos<cs.size:=by rw [←hl1];exact (zh.1 hvx).1
       have h10:pos<ds.size:=by rw [←hl2];exact (zh.1 huy).1
       have g1:cs[pos]?=some cs[pos]:=by simp
       have g2:ds[pos]?=some ds[pos]:=by simp
       have e1:=ih d f.type _ _ _ _ (by omega) h7.1 h8.1 (hc1 pos x _ hvx g1) (hc2 pos y _ huy g2);have da:vs.drop (pos+1)=az:=by rw [←yc,ha];rfl
       have db:us.drop (pos+1)=bs:=by rw [←yc,hb];rfl
       have ihr:=ihf (pos+1) az bs (fun f hf=>hfl f (by simp [hf])) h7.2 h8.2 da db (by simp at hla;omega) (by simp at hlb;omega);simp only [hname,ne_eq,not_false_eq_true,if_true,xy,hoff,Adk hc hfi hst _ _ g1,Adk hc hfi hst _ _ g2,j4,e1];cases hq:teq x y with
       |true=>
        rw [Ael] at hq;simp only [Bool.not_true,xq,if_false];rw [ihr];congr 1;rw [decide_eq_decide];simp [hq]
       |false=>
        rw [AeP] at hq;simp only [Bool.not_false,if_true,ve];congr 1;symm;rw [decide_eq_false_iff_not];simp [hq]
    have:=key fields.toList 0 vs us hall (by rw [hm];exact hx.2) (by rw [hm];exact hy.2) rfl rfl (by simp) (by simp);rw [this];congr 1;rw [Bool.eq_iff_iff,Ael,T.agg.injEq];simp
   |_=>rw [hty] at hx;simp at hx
theorem Aha {t:Nat} {x:T} (hc:CxTy P cx) {vs:List T} (hx:x= .agg vs) (h:conform cx depth t x=true):P.eqGuardType P.depth t=false:=by
 subst hx;unfold depth conform at h;cases hget:cx.ti.get t with
 |none=>simp [hget] at h
 |some i=>
  rw [hget] at h;simp only at h;obtain ⟨inf,ds,h1,h2,h3,h4,h5,h6,_⟩:=hc.ty t i hget;cases hty:i.ty with
  |struct fs=>rw [hty] at h;simp at h;exact (h6 h.1).2
  |_=>rw [hty] at h;simp at h
theorem tyBool (hc:CxTy P cx) {t:Nat} (h:isBool cx t=true):P.underlying t=some .bool:=by
 unfold isBool at h;split at h
 ·rename_i i hget;split at h
  ·rename_i hty;obtain ⟨inf,ds,h1,h2,h3,h4,h5,h6,_⟩:=hc.ty t i hget;rw [hty] at h5;simp only [TyR] at h5;rw [h2,h5]
  ·contradiction
 ·contradiction
theorem tyPtr (hc:CxTy P cx) {t:Nat} (h:isPtr cx t=true): ∃e,P.underlying t=some (.pointer e):=by
 unfold isPtr at h;split at h
 ·rename_i i hget;split at h
  ·rename_i hty;obtain ⟨inf,ds,h1,h2,h3,h4,h5,h6,_⟩:=hc.ty t i hget;rw [hty] at h5;simp only [TyR] at h5;obtain ⟨e,rfl⟩:=h5;exact ⟨e,h2⟩
  ·contradiction
 ·contradiction
theorem AoF (d t e:Nat) (he:P.underlying t=some (.pointer e)):(gd (d+1) t (.pointer none) (.pointer none)).run P w= .ok true w:=by
 simp [gd,run_underlying he]
theorem Ain (d t e:Nat) (he:P.underlying t=some (.pointer e)) (p:Addr):(gd (d+1) t (.pointer none) (.pointer (some p))).run P w= .ok false w:=by
 simp [gd,run_underlying he]
theorem Aio (d t e:Nat) (he:P.underlying t=some (.pointer e)) (p:Addr):(gd (d+1) t (.pointer (some p)) (.pointer none)).run P w= .ok false w:=by
 simp [gd,run_underlying he]
theorem Alr {id i j:Nat} {v:Value} (h:VR ι F w H (.ptr id i j) v) (ha:alive H (.ptr id i j)=true): ∃ad,v= .pointer (some ad):=by
 simp only [alive,there,Aae] at ha;cases h with
 |ptr _ _ _ _ hp=>
  unfold OwnPtr at hp;split at ha
  ·rename_i he;rw [he] at hp;obtain ⟨b,_,hb⟩:=hp;exact ⟨_,hb⟩
  ·rename_i he;rw [he] at hp;obtain ⟨_,b,_,hb⟩:=hp;exact ⟨_,hb⟩
  ·rename_i he;rw [he] at hp;obtain ⟨_,b,_,hb⟩:=hp;exact ⟨_,hb⟩
  ·contradiction
theorem Aj8 {id off:Nat} {n lim:Option Nat} {u:Value} (ht:there H id=true) (h:OwnSl ι w H id off n lim u): ∃ad la ca,u= .slice ad la ca:=by
 simp only [there,Aae] at ht;unfold OwnSl at h;split at h
 ·rename_i he;rw [he] at ht;simp at ht
 ·obtain ⟨a,cap,rfl,_⟩:=h;exact ⟨_,_,_,rfl⟩
 ·obtain ⟨a,cap,rfl,_⟩:=h;exact ⟨_,_,_,rfl⟩
 ·exact h.elim
theorem Alo {x:V} {u:Value} {R:V→Prop} {k:Bool→Q V} (hx:VR ι F w H x u) (hax:alive H x=true) (h:wpQ S (isNil x k) R): ∃ad la ca,u= .slice ad la ca∧wpQ S (k ad.isNone) R:=by
 have own: ∀ {ad:Option Addr},wpQ S (.both (k true) (k false)) R→wpQ S (k ad.isNone) R:=by
  intro ad h;cases ad with
  |none=>exact h.1
  |some a=>exact h.2
 have tree: ∀ {sz:Nat} {xs:List T} {u:Value},TR F w (.sl sz xs) u→wpQ S (.test (decide (xs.length=0)) fun b=>match b with|true=> .both (k true) (k false)|false=>k false) R→ ∃ad la ca,u= .slice ad la ca∧wpQ S (k ad.isNone) R:=by
  intro sz xs u ht h;cases ht with
  |slN _ a cap=>exact ⟨_,_,_,rfl,own h⟩
  |slC _ _ b o cap c hn=>
   have:xs.length≠0:=fun e=>hn (List.length_eq_zero_iff.1 e);simp only [wpQ,this,decide_false] at h;exact ⟨_,_,_,rfl,h⟩
 unfold isNil at h;split at h
 ·cases hx;exact ⟨_,_,_,rfl,h⟩
 ·exact tree hx.t_inv h
 ·cases hx with|fit _ _ _ ht=>exact tree ht h
 ·cases hx with
  |all _ _ _ ho=>obtain ⟨ad,la,ca,rfl⟩:=Aj8 hax ho;exact ⟨_,_,_,rfl,own h⟩
 ·cases hx with
  |sl _ _ _ _ _ ho=>obtain ⟨ad,la,ca,rfl⟩:=Aj8 hax ho;exact ⟨_,_,_,rfl,own h⟩
 ·exact h.elim
theorem AkW (d t e:Nat) (he:P.underlying t=some (.slice e)) (ad:Option Addr) (la ca:Nat):(gd (d+1) t (.slice ad la ca) (.slice none 0 0)).run P w= .ok ad.isNone w:=by
 cases ad<;>simp [gd,run_underlying he]
theorem Ape (hc:CxTy P cx) {op:BinOp} {t:Nat} {x y:V} {u v:Value} {R:V→Prop} (hx:VR ι F w H x u) (hy:VR ι F w H y v) (hax:alive H x=true) (h:wpQ S (nilSl cx op t x y) R):
  ∃r val,v= .slice none 0 0∧R r∧VR ι F w H r val∧ ∀w,(binOp op t u v).run P w= .ok val w:=by
 unfold nilSl at h;split at h
 ·rename_i el he;obtain ⟨hu,_⟩:=AbA hc he;cases hy;split at h
  ·obtain ⟨ad,la,ca,rfl,h⟩:=Alo hx hax h;exact ⟨_,_,rfl,h,.t _ _ (.bool _),fun w=>by simp [binOp,cl,bv,AkW 9999 t el hu]⟩
  ·obtain ⟨ad,la,ca,rfl,h⟩:=Alo hx hax h;exact ⟨_,_,rfl,h,.t _ _ (.bool _),fun w=>by simp [binOp,cl,bv,AkW 9999 t el hu]⟩
  ·exact h.elim
 ·exact h.elim
theorem Aq4 (hc:CxTy P cx) {op:BinOp} {t:Nat} {x y:V} {u v:Value} {R:V→Prop} (xo yo:Operand) (h:wpQ S (binV cx op t x y) R) (hx:VR ι F w H x u) (hy:VR ι F w H y v) (hax:alive H x=true) (hay:alive H y=true):
  ∃r val,R r∧VR ι F w H r val∧ ∀w,(do eqGuard op t xo yo u v;binOp op t u v:Sem Value).run P w= .ok val w:=by
 have plain: ∀(val:Value),(∀c d,¬(u= .agg c∧v= .agg d))→ ¬(u= .nilIface∧v= .nilIface)→(∀w,(binOp op t u v).run P w= .ok val w)→ ∀w,(do eqGuard op t xo yo u v;binOp op t u v:Sem Value).run P w= .ok val w:=by
  intro val h1 h2 h3 w;simp [Afo (P:=P) (w:=w) op t xo yo h1 h2,h3 w]
 have nilc: ∀(b:Bool),wpQ S (nilCmp cx t op b) R→(∃p,u= .pointer p)→(∃q,v= .pointer q)→(∀e,P.underlying t=some (.pointer e)→ ∀w,(gd 10000 t u v).run P w= .ok b w)→
   ∃r val,R r∧VR ι F w H r val∧ ∀w,(do eqGuard op t xo yo u v;binOp op t u v:Sem Value).run P w= .ok val w:=by
  rintro b h ⟨p,rfl⟩ ⟨q,rfl⟩ he;unfold nilCmp at h;split at h
  ·rename_i hp;obtain ⟨e,hp⟩:=tyPtr hc hp;have he:=he e hp;split at h
   ·exact ⟨_,_,h,.t _ _ (.bool _),plain _ (by simp) (by simp) (fun w=>by simp [binOp,cl,bv,he w])⟩
   ·exact ⟨_,_,h,.t _ _ (.bool _),plain _ (by simp) (by simp) (fun w=>by simp [binOp,cl,bv,he w])⟩
   ·exact h.elim
  ·exact h.elim
 unfold binV at h;split at h
 ·rename_i k a k' b;obtain rfl:=hx.t_inv.int_inv;obtain rfl:=hy.t_inv.int_inv;have pl:=fun val h3=>plain val (by simp) (by simp) h3;split at h
  ·obtain ⟨h1,h⟩:=h;refine ⟨_,_,h,.t _ _ (.int _ _),pl _ fun w=> ?_⟩;have: ¬b<0:=by omega
   simp [binOp,Op.shift,this]
  ·obtain ⟨h1,h⟩:=h;refine ⟨_,_,h,.t _ _ (.int _ _),pl _ fun w=> ?_⟩;have: ¬b<0:=by omega
   simp [binOp,Op.shift,this]
  ·split at h
   ·exact h.elim
   ·rename_i hk;have hk:k=k':=of_decide_eq_true hk;subst hk;split at h
    ·exact ⟨_,_,h,.t _ _ (.int _ _),pl _ (by simp [binOp,ml])⟩
    ·exact ⟨_,_,h,.t _ _ (.int _ _),pl _ (by simp [binOp,ml])⟩
    ·exact ⟨_,_,h,.t _ _ (.int _ _),pl _ (by simp [binOp,ml])⟩
    ·exact ⟨_,_,h.2,.t _ _ (.int _ _),pl _ (by simp [binOp,Op.intDiv,h.1])⟩
    ·exact ⟨_,_,h.2,.t _ _ (.int _ _),pl _ (by simp [binOp,Op.intDiv,h.1])⟩
    ·exact ⟨_,_,h,.t _ _ (.int _ _),pl _ (by simp [binOp,mj])⟩
    ·exact ⟨_,_,h,.t _ _ (.int _ _),pl _ (by simp [binOp,mj])⟩
    ·exact ⟨_,_,h,.t _ _ (.int _ _),pl _ (by simp [binOp,mj])⟩
    ·exact ⟨_,_,h,.t _ _ (.int _ _),pl _ (by simp [binOp,mj])⟩
    ·exact ⟨_,_,h,.t _ _ (.bool _),pl _ (by simp [binOp,cu])⟩
    ·exact ⟨_,_,h,.t _ _ (.bool _),pl _ (by simp [binOp,cu])⟩
    ·exact ⟨_,_,h,.t _ _ (.bool _),pl _ (by simp [binOp,cu])⟩
    ·exact ⟨_,_,h,.t _ _ (.bool _),pl _ (by simp [binOp,cu])⟩
    ·exact ⟨_,_,h,.t _ _ (.bool _),pl _ (by simp [binOp,cu])⟩
    ·exact ⟨_,_,h,.t _ _ (.bool _),pl _ (by simp [binOp,cu])⟩
    ·exact h.elim
 ·rename_i a b;obtain rfl:=hx.t_inv.bool_inv;obtain rfl:=hy.t_inv.bool_inv;have pl:=fun val h3=>plain val (by simp) (by simp) h3;have hb:P.underlying t=some .bool→ ∀w,(gd 10000 t (.bool a) (.bool b)).run P w= .ok (a==b) w:=fun hu w=>run_equalIn_bool' w 9999 t a b hu;split at h
  ·obtain ⟨h1,h⟩:=h;refine ⟨_,_,h,.t _ _ (.bool _),pl _ fun w=> ?_⟩;simp [binOp,cl,bv,hb (tyBool hc h1)]
  ·obtain ⟨h1,h⟩:=h;refine ⟨_,_,h,.t _ _ (.bool _),pl _ fun w=> ?_⟩;simp [binOp,cl,bv,hb (tyBool hc h1)]
  ·exact h.elim
 ·rename_i xs ys;have tx:=hx.t_inv;have ty:=hy.t_inv;have eqv:conform cx depth t (.agg xs)=true∧conform cx depth t (.agg ys)=true→ ∃cs ds,u= .agg cs∧v= .agg ds∧(∀w,(eqGuard op t xo yo u v).run P w= .ok () w)∧ ∀w,(cl t u v).run P w= .ok (teq (.agg xs) (.agg ys)) w:=by
   rintro ⟨h1,h2⟩;have he:=fun w0=>AoG w0 hc depth 10000 t _ _ _ _ (by unfold depth;omega) h1 h2 tx ty;have hgt:=Aha hc rfl h1;cases tx with
   |agg _ cs _ _ _=>
   cases ty with
   |agg _ ds _ _ _=>exact ⟨cs,ds,rfl,rfl,fun w=>run_eqGuard_agg (P:=P) w op t xo yo cs ds hgt,he⟩
  split at h
  ·obtain ⟨h1,h⟩:=h;obtain ⟨cs,ds,rfl,rfl,h3,h4⟩:=eqv h1;refine ⟨_,_,h,.t _ _ (.bool _),fun w=> ?_⟩;simp only [xy,h3,j4,binOp,h4,ve]
  ·obtain ⟨h1,h⟩:=h;obtain ⟨cs,ds,rfl,rfl,h3,h4⟩:=eqv h1;refine ⟨_,_,h,.t _ _ (.bool _),fun w=> ?_⟩;simp only [xy,h3,j4,binOp,h4,ve]
  ·exact h.elim
 ·have e1:=hx.t_inv;have e2:=hy.t_inv;cases e1;cases e2;exact nilc true h ⟨_,rfl⟩ ⟨_,rfl⟩ (fun e he _=>AoF 9999 t e he)
 ·have e1:=hx.t_inv;cases e1;obtain ⟨ad,rfl⟩:=Alr hy hay;exact nilc false h ⟨_,rfl⟩ ⟨_,rfl⟩ (fun e he _=>Ain 9999 t e he _)
 ·have e1:=hx.t_inv;have e2:=hy.t_inv;cases e1;cases e2;exact nilc false h ⟨_,rfl⟩ ⟨_,rfl⟩ (fun e he _=>Ain 9999 t e he _)
 ·have e2:=hy.t_inv;cases e2;obtain ⟨ad,rfl⟩:=Alr hx hax;exact nilc false h ⟨_,rfl⟩ ⟨_,rfl⟩ (fun e he _=>Aio 9999 t e he _)
 ·have e1:=hx.t_inv;have e2:=hy.t_inv;cases e1;cases e2;exact nilc false h ⟨_,rfl⟩ ⟨_,rfl⟩ (fun e he _=>Aio 9999 t e he _)
 ·have e1:=hx.t_inv;cases e1;obtain rfl:=hy.pin_inv;exact nilc false h ⟨_,rfl⟩ ⟨_,rfl⟩ (fun e he _=>Ain 9999 t e he _)
 ·have e2:=hy.t_inv;cases e2;obtain rfl:=hx.pin_inv;exact nilc false h ⟨_,rfl⟩ ⟨_,rfl⟩ (fun e he _=>Aio 9999 t e he _)
 ·obtain ⟨r,val,e1,h1,h2,h3⟩:=Ape hc hx hy hax h;exact ⟨r,val,h1,h2,plain _ (by rintro c d ⟨_,e2⟩;rw [e1] at e2;simp at e2) (by rintro ⟨_,e2⟩;rw [e1] at e2;simp at e2) h3⟩
variable {o:Oper} {e:Env} {a:Act} {R:V×Heap→Prop} {Q:Exit→Act→World→Prop}
theorem Ap7 (hc:CxTy P cx) (hg:Good ι F w H) (hs:Sim ι F w H e a) (op:BinOp) (t:Nat) (x y:Operand) (yt:Nat) (ho:o.op= .binOp op t x y yt) (h:wpQ S (opQ cx o e H) R):
  Still Any P R o ι F H w a:=by
 unfold opQ at h;rw [ho] at h;simp only at h;split at h
 ·rename_i hal;simp only [zf] at hal;obtain ⟨r,val,h1,h2,h3⟩:=Aq4 hc x y (Aaa _ _ _ h) (Aaj hs x) (Aaj hs y) hal.1 hal.2;refine Aao hg h1 h2 fun w=> ?_;unfold execOp;rw [ho];show ((do eqGuard op t x y (a.eval x) (a.eval y);binOp op t (a.eval x) (a.eval y):Sem Value)>>=fun v=>pure (Next.value v)).run P w=_;rw [xy,h3];rfl
 ·exact h.elim
end
end Go.Eva
namespace Go.Eva
open Go.RowKit
section
variable {P:Program} {cx:Cx} {S:Task→(Res→Prop)→Prop} {w:World} {ι:Io} {F:Nat→Prop} {H:Heap}
theorem TR.one {x:T} {v:Value} (h:TR F w x v) (hx:x≠ .any) (hn: ∀vs,x≠ .agg vs):v.cells= #[v]:=by
 have one: ∀ {c:Value},c.oneCell'=true→c.cells= #[c]:=by intro c hc;cases c<;>simp_all [ur,v6]
 cases h with
 |pin v h=>exact one h
 |any=>exact absurd rfl hx
 |agg vs=>exact absurd rfl (hn _)
 |_=>rfl
theorem T.cells_one {x:T} (hn: ∀vs,x≠ .agg vs):x.cells= [x]:=by cases x<;>first|rfl|exact absurd rfl (hn _)
theorem TR.cells {x:T} {v:Value} (h:TR F w x v) (hx:x≠ .any):x.cells.length=v.cells.size∧ ∀(i:Nat) t c,x.cells[i]?=some t→v.cells[i]?=some c→TR F w t c:=by
 by_cases hn: ∃vs,x= .agg vs
 ·obtain ⟨vs,rfl⟩:=hn;cases h with
  |agg _ cs hl h1 hc=>exact ⟨hl,hc⟩
 ·have hn: ∀vs,x≠ .agg vs:=fun vs e=>hn ⟨vs,e⟩;rw [h.one hx hn,T.cells_one hn];refine ⟨rfl,fun i t c ht hc=> ?_⟩;cases i with
  |zero=>simp at ht hc;subst ht;subst hc;exact h
  |succ i=>simp at ht
theorem V.cells_t (x:T):(V.t x).cells=x.cells.map .t:=by cases x<;>rfl
theorem OwnSl.any {id off:Nat} {n lim:Option Nat} {v c:Value} (h:OwnSl ι w H id off n lim v) (hc:v.cells[0]?=some c):OwnSl ι w H id off n lim c:=by
 unfold OwnSl at h⊢;split at h
 ·trivial
 ·obtain ⟨a,cap,rfl,h1⟩:=h;simp [v6] at hc;subst hc;exact ⟨a,cap,rfl,h1⟩
 ·obtain ⟨a,cap,rfl,h1⟩:=h;simp [v6] at hc;subst hc;exact ⟨a,cap,rfl,h1⟩
 ·exact h.elim
theorem OwnPtr.any {id i j:Nat} {v c:Value} (h:OwnPtr ι H id i j v) (hc:v.cells[0]?=some c):OwnPtr ι H id i j c:=by
 unfold OwnPtr at h⊢;split at h
 ·trivial
 ·obtain ⟨b,h1,rfl⟩:=h;simp [v6] at hc;subst hc;exact ⟨b,h1,rfl⟩
 ·obtain ⟨h0,b,h1,rfl⟩:=h;simp [v6] at hc;subst hc;exact ⟨h0,b,h1,rfl⟩
 ·obtain ⟨h0,b,h1,rfl⟩:=h;simp [v6] at hc;subst hc;exact ⟨h0,b,h1,rfl⟩
 ·obtain ⟨h0,h2,b,h1,rfl⟩:=h;simp [v6] at hc;subst hc;exact ⟨h0,h2,b,h1,rfl⟩
 ·obtain ⟨h0,h2,b,h1,rfl⟩:=h;simp [v6] at hc;subst hc;exact ⟨h0,h2,b,h1,rfl⟩
 ·exact h.elim
 ·exact h.elim
 ·exact h.elim
 ·exact h.elim
theorem OwnMap.any {id:Nat} {v c:Value} (h:OwnMap ι H id v) (hc:v.cells[0]?=some c):OwnMap ι H id c:=by
 unfold OwnMap at h⊢;split at h
 ·trivial
 ·obtain ⟨b,h1,rfl⟩:=h;simp [v6] at hc;subst hc;exact ⟨b,h1,rfl⟩
 ·obtain ⟨b,h1,rfl⟩:=h;simp [v6] at hc;subst hc;exact ⟨b,h1,rfl⟩
 ·exact h.elim
theorem VR.cells {x:V} {v:Value} (h:VR ι F w H x v) (hx:x≠ .t .any):
  ∀(i:Nat) t c,x.cells[i]?=some t→v.cells[i]?=some c→VR ι F w H t c:=by
 intro i t c ht hc;cases h with
 |t x v h=>
  obtain ⟨h1,h2⟩:=h.cells (fun e=>hx (by rw [e]));rw [V.cells_t] at ht;simp at ht;obtain ⟨y,hy,rfl⟩:=ht;exact .t _ _ (h2 i y c hy hc)
 |nil=>cases i<;>simp [V.cells,v6] at ht hc;subst ht;subst hc;exact .nil
 |fit sz xs a h=>cases i<;>simp [V.cells,v6] at ht hc;subst ht;subst hc;exact .fit _ _ _ h
 |all id lim v h=>cases i<;>simp [V.cells] at ht;subst ht;exact .all _ _ _ (h.any hc)
 |sl id off len lim v h=>cases i<;>simp [V.cells] at ht;subst ht;exact .sl _ _ _ _ _ (h.any hc)
 |ptr id j k v h=>cases i<;>simp [V.cells] at ht;subst ht;exact .ptr _ _ _ _ (h.any hc)
 |clo f cs vs hl hcc=>cases i<;>simp [V.cells,v6] at ht hc;subst ht;subst hc;exact .clo _ _ _ hl hcc
 |agg vs cs hl h1 hcc=>exact hcc i t c ht hc
 |tup vs cs hl hcc=>cases i<;>simp [V.cells,v6] at ht hc;subst ht;subst hc;exact .tup _ _ hl hcc
 |map id v h=>cases i<;>simp [V.cells] at ht;subst ht;exact .map _ _ (h.any hc)
 |also v x h1 h=>
  cases i<;>simp [V.cells] at ht;subst ht;have:v=c:=by cases v<;>simp [v6,ur] at hc h1<;>exact hc
  subst this;exact .also _ _ h1 h
def OldSame (w w':World):Prop:=w.heap.size≤w'.heap.size∧ ∀b,b<w.heap.size→w'.heap[b]?=w.heap[b]?
theorem OldSame.refl (w:World):OldSame w w:=⟨qn _,fun _ _=>rfl⟩
theorem OldSame.trans {w w1 w2:World} (h:OldSame w w1) (k:OldSame w1 w2):OldSame w w2:=⟨yp h.1 k.1,fun b hb=>(k.2 b (xt hb h.1)).trans (h.2 b hb)⟩
theorem OldSame.alloc (w:World) (o:Obj):OldSame w (w.alloc o):=⟨by simp,fun _ hb=>Aai hb⟩
theorem OldSame.cell {w w':World} (h:OldSame w w') {b o:Nat} {v:Value} (hv:w.cell? ⟨b,o,none⟩=some v):w'.cell? ⟨b,o,none⟩=some v:=by
 have hb:b<w.heap.size:=by
  rcases Nat.lt_or_ge b w.heap.size with hb|hb
  ·exact hb
  ·have:w.heap[b]?=none:=Array.getElem?_eq_none hb;simp [World.cell?,this] at hv
 rw [Agf (h.2 b hb)];exact hv
theorem Adi (hc:CxTy P cx) {t:Nat} {i:TI} (hi:cx.ti.get t=some i) (hst:isStruct cx t=true) (b o:Nat) (cs:List Value) (hlen:cs.length=sizeOf cx t)
  (h: ∀(j:Nat) v,cs[j]?=some v→w.cell? ⟨b,o+j,none⟩=some v):(loadVar t ⟨b,o,none⟩).run P w= .ok (.agg cs.toArray) w:=by
 have hl:=run_loadCells_list (P:=P) w ⟨b,o,none⟩ cs (fun j v hj=>by rw [AaW];exact h j v hj);rw [hlen] at hl;simp [loadVar,AbL hc hi,hst,Aa8 hc hi,hl]
theorem Adj (hc:CxTy P cx) {t:Nat} {i:TI} (hi:cx.ti.get t=some i) (hst:isStruct cx t=false) (b o:Nat) {v:Value}
  (h:w.cell? ⟨b,o,none⟩=some v):(loadVar t ⟨b,o,none⟩).run P w= .ok v w:=by
 simp [loadVar,AbL hc hi,hst,h]
theorem Ai9 (hc:CxTy P cx) {t s:Nat} {i:TI} (hi:cx.ti.get t=some i) {x:T} {j b o:Nat} {c:Nat→Value} {R:V→Prop} (h:wpQ S (loadT cx t s x j) R) (hx:x≠ .any)
  (hcc: ∀j,j<s→w.cell? ⟨b,o+j,none⟩=some (c j)∧(c j).oneCell'=true) (hl:x.cells.length=s) (hr: ∀(j:Nat) t,x.cells[j]?=some t→TR F w t (c j)):
  ∃v u,R v∧VR ι F w H v u∧(∀w',OldSame w w'→(loadVar t ⟨b,o+j,none⟩).run P w'= .ok u w'):=by
 have part: ∀(l:List T),isStruct cx t=true→l=(x.cells.drop j).take (sizeOf cx t)→(j+sizeOf cx t≤x.cells.length∨sizeOf cx t=0)→ ∃u,VR ι F w H (.t (.agg l)) u∧(∀w',OldSame w w'→(loadVar t ⟨b,o+j,none⟩).run P w'= .ok u w'):=by
  intro l hst he hle;have hll:l.length=sizeOf cx t:=by subst he;simp;omega
  let cs:List Value:=(jq (sizeOf cx t)).map fun k=>c (j+k)
  have hcs:cs.length=sizeOf cx t:=by simp [cs]
  refine ⟨.agg cs.toArray,.t _ _ (.agg _ _ (by simp [hll,hcs]) ?_ ?_),fun w' hw'=>Adi hc hi hst b (o+j) cs hcs ?_⟩
  ·intro k v hv;simp [cs] at hv;obtain ⟨m,hm,rfl⟩:=hv;have hk:k<sizeOf cx t:=by have:=(zh.1 hm).1;simpa using this
   have:m=k:=by rw [wd hk] at hm;simpa using hm.symm
   exact (hcc (j+m) (by omega)).2
  ·intro k y v hy hv;simp [cs] at hv;obtain ⟨m,hm,rfl⟩:=hv;have hk:k<sizeOf cx t:=by have:=(zh.1 hm).1;simpa using this
   have:m=k:=by rw [wd hk] at hm;simpa using hm.symm
   subst this;subst he;rw [uh hk,xh] at hy;exact hr (j+m) y hy
  ·intro k v hv;simp [cs] at hv;obtain ⟨m,hm,rfl⟩:=hv;have hk:k<sizeOf cx t:=by have:=(zh.1 hm).1;simpa using this
   have:m=k:=by rw [wd hk] at hm;simpa using hm.symm
   subst this;have:=(hcc (j+m) (by omega)).1;rw [←wr] at this;exact hw'.cell this
 unfold loadT at h;split at h
 ·rename_i hst;split at h
  ·rename_i hw;simp only [zf,wv] at hw;have h1:=zp hw.1.1;have h2:=zp hw.1.2;have h3:=pd hw.2;subst h1;have hagg: ∃vs,x= .agg vs:=by
    by_cases hn: ∃vs,x= .agg vs
    ·exact hn
    ·have:=T.cells_one (fun vs e=>hn ⟨vs,e⟩);rw [this] at hl;simp at hl;omega
   obtain ⟨vs,rfl⟩:=hagg;obtain ⟨u,hu,hrun⟩:=part vs hst (by simp [T.cells] at hl⊢;rw [vz (by omega)]) (.inl (by omega));exact ⟨_,u,h,hu,hrun⟩
  ·rcases AkG (Aaa _ _ _ h) with ⟨h1,h2⟩|⟨h1,h2⟩
   ·obtain ⟨u,hu,hrun⟩:=part _ hst rfl (.inl h2);exact ⟨_,u,h1,hu,hrun⟩
   ·obtain ⟨u,hu,hrun⟩:=part [] hst (by simp [h1]) (.inr h1);exact ⟨_,u,h2,hu,hrun⟩
 ·rename_i hst;rcases AkG (Aaa _ _ _ h) with ⟨h1,h2⟩|⟨h1,_⟩
  ·have hj:j<x.cells.length:=by omega
   have e:(x.cells.drop j).take 1= [x.cells[j]]:=by rw [uj hj];rfl
   rw [e] at h1;exact ⟨_,c j,h1,.t _ _ (hr j _ (zt hj)),fun w' hw'=>Adj hc hi hst b (o+j) (hw'.cell (hcc j (by omega)).1)⟩
  ·omega
theorem AfV {vs:List V} {cs:Array Value} (hl:vs.length=cs.size) (h1: ∀(i:Nat) c,cs[i]?=some c→c.oneCell'=true) (hcc: ∀(i:Nat) x c,vs[i]?=some x→cs[i]?=some c→VR ι F w H x c):
  VR ι F w H (mkAgg vs) (.agg cs):=by
 unfold mkAgg;split
 ·rename_i l hl';have:=Ab9 hl';subst this;refine .t _ _ (.agg _ _ (by simpa using hl) h1 ?_);intro i x c hx hc';exact (hcc i (.t x) c (by simp [hx]) hc').t_inv
 ·exact .agg _ _ hl h1 hcc
theorem Ac3 {v:V} (h:noShut v.cells=true):v.shut=false:=by
 cases v with
 |t x=>cases x<;>first|rfl|(simp [V.cells,noShut,V.shut,T.shut] at h)
 |_=>rfl
theorem Abh (l:List V):(mkAgg l).cells=l:=by
 unfold mkAgg;split
 ·rename_i ts h;rw [Ab9 h];rfl
 ·rfl
theorem AkJ: ∀(ts:List T),allT (ts.map .t)=some ts
 | []=>rfl
 |x::r=>by simp [allT,AkJ r]
theorem unmk {vs:List V} {us:Array Value} (h:VR ι F w H (mkAgg vs) (.agg us)):VR ι F w H (.agg vs) (.agg us):=by
 unfold mkAgg at h;cases hv:allT vs with
 |none=>rw [hv] at h;exact h
 |some ts=>
  rw [hv] at h;have:=Ab9 hv;subst this;cases h.t_inv with
  |agg _ _ hl ho hcc=>
   refine .agg _ _ (by simpa using hl) ho fun i x c hx hc=> ?_;simp at hx;obtain ⟨y,hy,rfl⟩:=hx;exact .t _ _ (hcc i y c hy hc)
theorem AiR {v:V} (h:v.cells.length≠1):(∃ts,v= .t (.agg ts))∨ ∃vs,v= .agg vs:=by
 cases v with
 |t x=>cases x<;>first|exact .inl ⟨_,rfl⟩|(exfalso;apply h;rfl)
 |agg vs=>exact .inr ⟨vs,rfl⟩
 |_=>exfalso;apply h;rfl
theorem AbO {v:V} {R:V→Prop} (h:wpQ S (open1 v) R):noShut v.cells=true∧R v:=by
 unfold open1 at h;split at h
 ·rename_i hn;exact ⟨hn,h⟩
 ·exact h.elim
theorem Als (hc:CxTy P cx) {t s:Nat} {i:TI} (hi:cx.ti.get t=some i) {v:V} {cs:Array Value} {j b k0:Nat} {R:V→Prop} (h:wpQ S ((loadV cx t s v j).bind open1) R) (hsz:v.size=s) (hvs:k0+s≤cs.size)
  (hcells: ∀(i:Nat) x c,v.cells[i]?=some x→cs[k0+i]?=some c→x.shut=false→VR ι F w H x c) (hone: ∀(i:Nat) c,cs[i]?=some c→c.oneCell'=true) (hcell: ∀k,w.cell? ⟨b,k,none⟩=cs[k]?):
  ∃v' u,R v'∧VR ι F w H v' u∧(∀w',OldSame w w'→(loadVar t ⟨b,k0+j,none⟩).run P w'= .ok u w'):=by
 have hlen:v.cells.length=s:=hsz;have part:isStruct cx t=true→(j+sizeOf cx t≤v.cells.length∨sizeOf cx t=0)→noShut ((v.cells.drop j).take (sizeOf cx t))=true→
   ∃us:Array Value,us=((cs.toList.drop (k0+j)).take (sizeOf cx t)).toArray∧VR ι F w H (mkAgg ((v.cells.drop j).take (sizeOf cx t))) (.agg us)∧(∀w',OldSame w w'→(loadVar t ⟨b,k0+j,none⟩).run P w'= .ok (.agg us) w'):=by
  intro hst hle hns;have hcl: ∀(k:Nat) c,((cs.toList.drop (k0+j)).take (sizeOf cx t))[k]?=some c→k<sizeOf cx t∧cs[k0+j+k]?=some c:=by
   intro k c hk;rw [ji] at hk;split at hk
   ·rw [xh] at hk;exact ⟨by assumption,by simpa using hk⟩
   ·contradiction
  refine ⟨_,rfl,AfV ?_ ?_ ?_,?_⟩
  ·simp;omega
  ·intro k c hk;exact hone _ c (hcl k c (by rw [ym] at hk;exact hk)).2
  ·intro k x c hx hk;obtain ⟨hk1,hk2⟩:=hcl k c (by rw [ym] at hk;exact hk);have hxs:=Ab8 hns k x hx;rw [uh hk1,xh] at hx;exact hcells _ x c hx (by rw [←wr];exact hk2) hxs
  ·exact fun w' hw'=>Adi (P:=P) (w:=w') hc hi hst b (k0+j) ((cs.toList.drop (k0+j)).take (sizeOf cx t)) (by simp;omega) (by
    intro k u hu;refine hw'.cell ?_;rw [hcell];exact (hcl k u hu).2)
 replace h:=Aaa _ _ _ h;unfold loadV at h;split at h
 ·rename_i hst;split at h
  ·rename_i hw;simp only [zf,wv] at hw;have h1:=zp hw.1.1;have h2:=zp hw.1.2;have h3:=pd hw.2;subst h1;obtain ⟨hns,h4⟩:=AbO (Aav h);have e:(v.cells.drop 0).take (sizeOf cx t)=v.cells:=by rw [qr,vz (by omega)]
   obtain ⟨us,hus,hu,hrun⟩:=part hst (.inl (by omega)) (by rw [e];exact hns);rw [e] at hu;refine ⟨v,.agg us,h4,?_,hrun⟩;rcases AiR (v:=v) (by omega) with ⟨ts,rfl⟩|⟨vs,rfl⟩
   ·have:mkAgg (V.t (.agg ts)).cells= .t (.agg ts):=by
     unfold mkAgg;rw [show (V.t (.agg ts)).cells=ts.map .t from rfl,AkJ]
    rwa [this] at hu
   ·exact unmk hu
  ·rcases Afx (Aaa _ _ _ h) with ⟨h1,h2⟩|⟨h1,h2⟩
   ·obtain ⟨hns,h4⟩:=AbO (Aav h1);rw [Abh] at hns;obtain ⟨us,_,hu,hrun⟩:=part hst (.inl h2) hns;exact ⟨_,_,h4,hu,hrun⟩
   ·have e:(v.cells.drop j).take (sizeOf cx t)= []:=by rw [h1];rfl
    obtain ⟨us,_,hu,hrun⟩:=part hst (.inr h1) (by rw [e];rfl);rw [e] at hu;exact ⟨_,_,(AbO (Aav h2)).2,hu,hrun⟩
 ·rename_i hst;rcases Afx (Aaa _ _ _ h) with ⟨h1,h2⟩|⟨h1,_⟩
  ·have hj:j<v.cells.length:=by omega
   have e:(v.cells.drop j).take 1= [v.cells[j]]:=by rw [uj hj];rfl
   rw [e] at h1;obtain ⟨hns,h4⟩:=AbO h1;have hcv:cs[k0+j]?=some (cs[k0+j]'(by omega)):=by simp
   exact ⟨_,cs[k0+j]'(by omega),h4,hcells j _ _ (zt hj) hcv (Ac3 hns),fun w' hw'=>Adj hc hi hst b (k0+j) (hw'.cell (by rw [hcell];exact hcv))⟩
  ·omega
theorem Ab7 {α:Type} {i:Nat}: ∀ {ps:List (Nat×V)} {k:Option V→List (Nat×V)→Q α} {R:α→Prop},wpQ S (takeP i ps k) R→(keysP ps).Nodup→
  ∃r,wpQ S (k (findP i ps) r) R∧i∉keysP r∧(keysP r).Sublist (keysP ps)∧ ∀j,j≠i→findP j r=findP j ps
 | [],k,R,h,_=>⟨[],h,by simp [keysP],List.Sublist.refl _,fun _ _=>rfl⟩
 |(j,v)::r,k,R,h,hn=>by
  have hn':j∉keysP r∧(keysP r).Nodup:=by simpa [keysP] using hn
  unfold takeP at h;simp only [wpQ] at h;by_cases e:i=j
  ·subst e;simp only [decide_true] at h;refine ⟨r,?_,hn'.1,by simp [keysP],fun j hj=> ?_⟩
   ·simp only [findP,if_true];exact h
   ·simp [findP,hj]
  ·simp only [e,decide_false] at h;obtain ⟨r',h1,h2,h3,h4⟩:=Ab7 h hn'.2;refine ⟨(j,v)::r',?_,?_,?_,fun k hk=> ?_⟩
   ·simp only [findP,e,if_false];exact h1
   ·simp only [keysP,qo,qf,not_or];exact ⟨e,h2⟩
   ·simp only [keysP,qo] at h3⊢;exact h3.cons_cons j
   ·simp only [findP,h4 k hk]
theorem findBlk {b:Nat}: ∀ {bs:List Nat} {i:Nat},findIx .i64 b (blkKeys bs)=some i→bs[i]?=some b
 | [],_,h=>by simp [blkKeys,findIx] at h
 |c::r,i,h=>by
  have h':(match decide (IntKind.i64=IntKind.i64),(b:Int)==(c:Int) with
   |true,true=>some 0
   |_,_=>match findIx .i64 b (blkKeys r) with|some i=>some (i+1)|none=>none)=some i:=h
  clear h;by_cases hbc:b=c
  ·subst hbc;simp at h';subst h';rfl
  ·have:((b:Int)==(c:Int))=false:=by simp;omega
   rw [this] at h';simp at h';cases hf:findIx .i64 b (blkKeys r) with
   |none=>rw [hf] at h';simp at h'
   |some i'=>
    rw [hf] at h';simp at h';subst h';simpa using findBlk hf
theorem AgM: ∀ {H:Heap} {n p:Nat} {bs:List Nat} {xs:List T},poolAt n H=some (p,bs,xs)→n≤p∧H[p-n]?=some (.pool bs xs)
 | [],_,_,_,_,h=>by simp [poolAt] at h
 |o::r,n,p,bs,xs,h=>by
  unfold poolAt at h;split at h
  ·simp only [j0,m6] at h;obtain ⟨rfl,rfl,rfl⟩:=h;simp
  ·obtain ⟨h1,h2⟩:=AgM h;refine ⟨by omega,?_⟩;have:p-n=(p-(n+1))+1:=by omega
   rw [this];simpa using h2
theorem AlA {α:Type} {b:Nat} {k:Nat→List Nat→List T→Nat→Q α} {R:α→Prop} (h:wpQ S (pinAt b H k) R):
  ∃p bs xs i,H[p]?=some (.pool bs xs)∧bs[i]?=some b∧wpQ S (k p bs xs i) R:=by
 unfold pinAt at h;split at h
 ·rename_i p bs xs hp;obtain ⟨_,h⟩:=h;simp only at h;split at h
  ·rename_i i hi;exact ⟨p,bs,xs,i,by simpa using (AgM hp).2,findBlk hi,h⟩
  ·exact h.elim
 ·exact h.elim
theorem Ajt (hc:CxTy P cx) (hg:Good ι F w H) {t:Nat} {i:TI} (hi:cx.ti.get t=some i) {a:V} {val:Value} {R:V→Prop} (h:wpQ S (loadAt cx t a H) R) (ha:VR ι F w H a val):
  ∃v u,R v∧VR ι F w H v u∧(∀w',OldSame w w'→(c9 t val).run P w'= .ok u w')∧ ∃ad,val= .pointer (some ad)∧ ∀w',OldSame w w'→(loadVar t ad).run P w'= .ok u w':=by
 have fin: ∀ {b o:Nat} {u:Value},(∀w',OldSame w w'→(loadVar t ⟨b,o,none⟩).run P w'= .ok u w')→ ∀w',OldSame w w'→(c9 t (.pointer (some ⟨b,o,none⟩))).run P w'= .ok u w':=by
  intro b o u hu w' hw';simp [c9,ma,hu w' hw']
 unfold loadAt at h;split at h
 ·rename_i id k j;rw [Aae] at h;cases ha with
  |ptr _ _ _ _ hp=>
  unfold OwnPtr at hp;split at h
  ·rename_i s v ro ho;rw [ho] at hp;obtain ⟨b,hb,rfl⟩:=hp;split at h
   ·obtain ⟨h1,h2,_,b',cs,e,fp,h3,h4,h5,h6,h7,h8⟩:=hg.obj id _ ho;rw [hb] at h3;obtain rfl:=ze h3;obtain ⟨v',u,g1,g2,g3⟩:=Als (P:=P) (k0:=0) hc hi h h2 (by omega) (fun k x c hx hcc hs=>((h7 k x c hx (by simpa using hcc)).open hs).1) h6 (fun k=>cell_of_row w b k _ e _ h4);rw [jk] at g3;exact ⟨v',u,g1,g2,fin g3,_,rfl,g3⟩
   ·exact h.elim
  ·rename_i s xs sp ro ho;rw [ho] at hp;obtain ⟨hlt,b,hb,rfl⟩:=hp;obtain ⟨x,hx,hne,h⟩:=h;obtain ⟨h0,_,hcase⟩:=hg.obj id _ ho;rcases hcase with ⟨h1,h2,_⟩|⟨b',cs,e,h1,h2,h3,h4,h5,h6,c,g1,g2,g3⟩
   ·subst h2;simp at hlt
   ·rw [hb] at h1;obtain rfl:=ze h1;obtain ⟨v',u,k1,k2,k3⟩:=Ai9 (P:=P) (o:=k*s) (c:=c k) hc hi h hne (fun j hj=>g1 k j hlt hj) (g2 k x hx hne) (fun j t ht=>g3 k j x t hx hne ht);exact ⟨v',u,k1,k2,fin k3,_,rfl,k3⟩
  ·rename_i s xs ps ho;rw [ho] at hp;obtain ⟨hlt,b,hb,rfl⟩:=hp;obtain ⟨h0,ht,hcase⟩:=hg.obj id _ ho;rcases hcase with ⟨h1,_⟩|⟨b',cs,e,fp,h1,h2,h3,h4,h5,h6,h7,h8⟩
   ·rw [hb] at h1;contradiction
   rw [hb] at h1;obtain rfl:=ze h1;obtain ⟨r,h,_⟩:=Ab7 h ht.1;have hle:k*s+s≤cs.size:=by
    have:(k+1)*s≤xs.length*s:=qj s (by omega);rw [jc,xu] at this;omega
   have key: ∀v,memP ps xs k=some v→wpQ S ((loadV cx t s v j).bind open1) R→ ∃v u,R v∧VR ι F w H v u∧(∀w',OldSame w w'→(c9 t (.pointer (some ⟨b,k*s+j,none⟩))).run P w'= .ok u w')∧ ∃ad,Value.pointer (some ⟨b,k*s+j,none⟩)= .pointer (some ad)∧ ∀w',OldSame w w'→(loadVar t ad).run P w'= .ok u w':=by
    intro v hv h;obtain ⟨v',u,g1,g2,g3⟩:=Als (P:=P) (k0:=k*s) hc hi h (h6 k v hv).2 hle (fun i x c hx hcc hs=>((h7 k i v x c hv hx hcc).open hs).1) h5 (fun k=>cell_of_row w b k _ e _ h2);exact ⟨v',u,g1,g2,fin g3,_,rfl,g3⟩
   split at h
   ·rename_i v hf;exact key v (by unfold memP;rw [hf]) h
   ·rename_i hf;obtain ⟨x,hx,_,h⟩:=h;exact key (.t x) (by unfold memP;rw [hf,hx];rfl) h
  ·exact h.elim
 ·rename_i s x j;have ht:=ha.t_inv;cases ht with
  |ip _ _ _ b o c hF hx hcc hl hr=>
   obtain ⟨v',u,k1,k2,k3⟩:=Ai9 (P:=P) hc hi h hx hcc hl hr;exact ⟨v',u,k1,k2,fin k3,_,rfl,k3⟩
 ·rename_i b j;obtain rfl:=ha.pin_inv;obtain ⟨p,bs,xs,k,ho,hb,h⟩:=AlA h;obtain ⟨x,hx,hne,h⟩:=h;obtain ⟨⟨h1,h0,h2⟩,h3⟩:=hg.obj p _ ho;obtain ⟨_,cs,e,h4,h5,h6,h7⟩:=h3 k x b hx hb;obtain ⟨v',u,k1,k2,k3⟩:=Ai9 (P:=P) (o:=0) (b:=b) (c:=fun j=>cs.getD j undef) hc hi h hne (fun j hj=>by
   have hj':j<cs.size:=by omega
   refine ⟨?_,?_⟩
   ·rw [jk,cell_of_row w b _ _ e _ h4];simp [hj']
   ·have:=h6 j cs[j] (qp hj');simpa [hj'] using this) rfl (fun j t ht=>by
   have hj':j<cs.size:=by have:=(zh.1 ht).1;omega
   have:=h7 j t cs[j] ht (qp hj');simpa [hj'] using this)
  rw [jk] at k3;exact ⟨v',u,k1,k2,fin k3,_,rfl,k3⟩
 ·exact h.elim
end
end Go.Eva
namespace Go.Eva
open Go.RowKit
def opOb:T→Ob
 | .box s y=> .one s (.t y) false
 | .row s xs=> .arr s xs none false
 | .vrow s xs=> .vec s xs []
 | .dict ks xs=> .map ks xs []
 |_=> .dead
def opV (n:Nat):T→V
 | .box _ _=> .ptr n 0 0
 | .row _ _=> .all n none
 | .vrow _ _=> .all n none
 | .dict _ _=> .map n
 |x=> .t x
def fset (f:Nat→List Nat) (j:Nat) (l:List Nat):Nat→List Nat:=fun i=>if i=j then l else f i
theorem Ai0 (f:Nat→List Nat) (j:Nat) (l:List Nat): ∀n,n≤j→(jq n).flatMap (fset f j l)=(jq n).flatMap f:=by
 intro n;induction n with
 |zero=>intro _;rfl
 |succ n ih=>
  intro h;rw [List.range_succ,uo,uo,ih (by omega)];simp [fset,show n≠j by omega]
theorem Ada (f:Nat→List Nat) (j:Nat) (l:List Nat): ∀n,j<n→((jq n).flatMap (fset f j l)).Perm ((jq n).flatMap (fset f j [])++l):=by
 intro n;induction n with
 |zero=>intro h;omega
 |succ n ih=>
  intro h;rw [List.range_succ,uo,uo];by_cases e:j=n
  ·subst e;rw [Ai0 f j l j (qn _),Ai0 f j [] j (qn _)];simp [fset]
  ·have h1:=ih (by omega);have e2: [n].flatMap (fset f j l)=f n∧ [n].flatMap (fset f j [])=f n:=by simp [fset,vf e]
   rw [e2.1,e2.2];refine (h1.append_right (f n)).trans ?_;rw [ql,ql];exact List.Perm.append_left _ List.perm_append_comm
theorem Ae9 (f:Nat→List Nat) (j:Nat):fset f j (f j)=f:=by
 funext i;unfold fset;split
 ·rename_i h;rw [h]
 ·rfl
section
variable {S:Task→(Res→Prop)→Prop} {w:World} {ι:Io} {F:Nat→Prop} {H:Heap}
theorem CR.opened {x:T} {c:Value} {fp:List Nat} (h:CR F w x c fp) (hs:x.shut=true): ∃(main:Option Nat) (fpi:List Nat),fp=main.toList++fpi∧(main=none→fpi= [])∧
  ∀(ι':Io) (H':Heap) (n:Nat),ι' n=main→ι'.hid n=fpi→H'[n]?=some (opOb x)→ObR ι' F w H' n (opOb x)∧VR ι' F w H' (opV n x) c:=by
 cases h with
 |tr _ _ h=>cases h<;>simp [T.shut] at hs
 |box sz y b cs e fp hx hl hb hsz h1 hc=>
  refine ⟨some b,_,rfl,by simp,fun ι' H' n h2 h3 h4=>⟨⟨fun h=>hx (by simpa using h),?_,by simp,b,cs,e,fp,h2,hb,hsz,h1,?_,h3⟩,.ptr _ _ _ _ ?_⟩⟩
  ·show (V.t y).cells.length=sz;rw [V.cells_t];simpa using hl
  ·intro j v c hv hcc;rw [V.cells_t] at hv;simp at hv;obtain ⟨t,ht,rfl⟩:=hv;exact .t _ _ _ (hc j t c ht hcc)
  ·unfold OwnPtr;rw [h4];exact ⟨b,h2,rfl⟩
 |row0 sz a h0=>
  refine ⟨none,[],rfl,by simp,fun ι' H' n h2 h3 h4=>⟨⟨h0,h3,.inl ⟨h2,rfl,by simp⟩⟩,.all _ _ _ ?_⟩⟩;unfold OwnSl;rw [h4];exact ⟨a,0,rfl,by simp,by simp,by rw [h2]⟩
 |row sz xs b cs e a cap h0 hcap ha hk hb h1 hc=>
  have hle:xs.length*sz≤cs.size:=by rw [←hk];exact qj sz hcap
  refine ⟨some b,[],rfl,by simp,fun ι' H' n h2 h3 h4=>⟨⟨h0,h3,.inr ⟨b,cs,e,h2,hb,hle,by simp,⟨cap,hk.symm⟩,h1,hc⟩⟩,.all _ _ _ ?_⟩⟩;unfold OwnSl;rw [h4];refine ⟨a,cap,rfl,hcap,by simp,?_⟩;rw [h2];simp only [wq,jk];refine ⟨ha,?_⟩;unfold blk;rw [hb];exact hk
 |vrow0 sz a h0=>
  refine ⟨none,[],rfl,by simp,fun ι' H' n h2 h3 h4=>⟨⟨h0,⟨by simp [keysP],by simp [keysP]⟩,.inl ⟨h2,rfl,h3⟩⟩,.all _ _ _ ?_⟩⟩;unfold OwnSl;rw [h4];exact ⟨a,0,rfl,by simp,by simp,by rw [h2]⟩
 |vrow sz xs b cs e a cap fp h0 hcap ha hk hb h1 hl hc=>
  have hle:xs.length*sz≤cs.size:=by rw [←hk];exact qj sz hcap
  have mem: ∀ {i:Nat} {v:V},memP [] xs i=some v→ ∃x,xs[i]?=some x∧v= .t x:=by
   intro i v hv;simp [memP,findP] at hv;obtain ⟨x,hx,rfl⟩:=hv;exact ⟨x,hx,rfl⟩
  refine ⟨some b,_,rfl,by simp,fun ι' H' n h2 h3 h4=>⟨⟨h0,⟨by simp [keysP],by simp [keysP]⟩,.inr ⟨b,cs,e,fp,h2,hb,hle,⟨cap,hk.symm⟩,h1,?_,?_,h3⟩⟩,.all _ _ _ ?_⟩⟩
  ·intro i v hv;obtain ⟨x,hx,rfl⟩:=mem hv;obtain ⟨k1,k2⟩:=hl i x hx;exact ⟨fun h=>k1 (by simpa using h),by show (V.t x).cells.length=sz;rw [V.cells_t];simpa using k2⟩
  ·intro i j v y c hv hy hcc;obtain ⟨x,hx,rfl⟩:=mem hv;rw [V.cells_t] at hy;simp at hy;obtain ⟨t,ht,rfl⟩:=hy;exact .t _ _ _ (hc i j x t c hx ht hcc)
  ·unfold OwnSl;rw [h4];refine ⟨a,cap,rfl,hcap,by simp,?_⟩;rw [h2];simp only [wq,jk];refine ⟨ha,?_⟩;unfold blk;rw [hb];exact hk
 |dict ks xs b es clock fp hb hk hv he h1 h3 h2=>
  have mem: ∀ {i:Nat} {v:V},memP [] xs i=some v→ ∃x,xs[i]?=some x∧v= .t x:=by
   intro i v hv;simp [memP,findP] at hv;obtain ⟨x,hx,rfl⟩:=hv;exact ⟨x,hx,rfl⟩
  refine ⟨some b,_,rfl,by simp,fun ι' H' n k2 k3 k4=>⟨⟨hv,⟨by simp [keysP],by simp [keysP]⟩,b,es,clock,fp,k2,hb,hk,he,h1,?_,?_,k3⟩,.map _ _ ?_⟩⟩
  ·intro i v hv;obtain ⟨x,hx,rfl⟩:=mem hv;exact fun h=>h3 i x hx (by simpa using h)
  ·intro i v e hv hee;obtain ⟨x,hx,rfl⟩:=mem hv;exact .t _ _ _ (h2 i x e hx hee)
  ·unfold OwnMap;rw [k4];exact ⟨b,k2,rfl⟩
theorem Aqk {x:T} (h:x.shut=true):(opOb x).ro=false:=by cases x<;>simp [T.shut] at h<;>rfl
theorem AnY (hg:Good ι F w H) {id:Nat} {o o' ob:Ob} {main:Option Nat} {fpi hid':List Nat} (ho:H[id]?=some o) (hro:o.ro=false) (hro':o'.ro=false) (hrob:ob.ro=false)
  (hperm:(ι.hid id).Perm (hid'++(main.toList++fpi)))
  (hlike:Like ι (updH (ι.sh id hid') H.length main fpi) w w id o o')
  (hob:((H++ [ob]).set id o')[H.length]?=some ob→ObR (updH (ι.sh id hid') H.length main fpi) F w ((H++ [ob]).set id o') H.length ob)
  (ho':(∀i oi,H[i]?=some oi→ ∃o'',((H++ [ob]).set id o')[i]?=some o''∧Like ι (updH (ι.sh id hid') H.length main fpi) w w i oi o'')→ObR (updH (ι.sh id hid') H.length main fpi) F w ((H++ [ob]).set id o') id o'):
  Good (updH (ι.sh id hid') H.length main fpi) F w ((H++ [ob]).set id o')∧Step ι F H w (updH (ι.sh id hid') H.length main fpi) F ((H++ [ob]).set id o') w:=by
 generalize hι:updH (ι.sh id hid') H.length main fpi=ι' at*;have hid:=(zh.1 ho).1;have hd:=Aa4 hro;obtain ⟨hnd,hmain⟩:=hg.nd id o ho hd;have hn2:(hid'++(main.toList++fpi)).Nodup:=hperm.nodup_iff.1 hnd;have hmem: ∀b,b∈ι.hid id↔b∈hid'∨b∈main.toList++fpi:=fun b=>by rw [hperm.mem_iff,jp]
 have eid:ι' id=ι id∧ι'.hid id=hid':=by
  rw [←hι,(Ac6 (by omega)).1,(Ac6 (by omega)).2];exact Io.sh_eq
 have en:ι' H.length=main∧ι'.hid H.length=fpi:=by rw [←hι];exact AaK
 have eo: ∀i,i≠id→i≠H.length→ι' i=ι i∧ι'.hid i=ι.hid i:=by
  intro i h1 h2;rw [←hι,(Ac6 h2).1,(Ac6 h2).2];exact Io.sh_ne h1
 have entry: ∀(i:Nat) (oi:Ob),((H++ [ob]).set id o')[i]?=some oi→(i=id∧oi=o')∨(i=H.length∧oi=ob∧i≠id)∨(i≠id∧i≠H.length∧H[i]?=some oi):=by
  intro i oi h;by_cases e:i=id
  ·subst e;rw [qw (by simp;omega)] at h;exact .inl ⟨rfl,(ze h).symm⟩
  ·rw [qy (vf e)] at h;rcases Aan h with h|⟨h1,h2⟩
   ·exact .inr (.inr ⟨e,by have:=(zh.1 h).1;omega,h⟩)
   ·exact .inr (.inl ⟨h1,h2,e⟩)
 have bid: ∀b,Blk ι' id b→Blk ι id b∧b∉main.toList++fpi:=by
  intro b hb;unfold Blk at hb⊢;rw [eid.1,eid.2] at hb;rcases hb with hb|hb
  ·exact ⟨.inl hb,fun h=>hmain b hb ((hmem b).2 (.inr h))⟩
  ·exact ⟨.inr ((hmem b).2 (.inl hb)),fun h=>(ui.1 hn2).2.2 b hb b h rfl⟩
 have bn: ∀b,Blk ι' H.length b→b∈main.toList++fpi:=by
  intro b hb;unfold Blk at hb;rw [en.1,en.2] at hb;rcases hb with hb|hb
  ·rw [hb];simp
  ·simp [hb]
 have bnid: ∀b,b∈main.toList++fpi→Blk ι id b:=fun b h=> .inr ((hmem b).2 (.inr h));have back: ∀(i b:Nat) (oi:Ob),((H++ [ob]).set id o')[i]?=some oi→oi.isDead=false→Blk ι' i b→ ∃(j:Nat) (oj:Ob),H[j]?=some oj∧oj.isDead=false∧Blk ι j b∧oj.ro=oi.ro∧((i=j∧ ¬(i=id∧b∈main.toList++fpi))∨(i=H.length∧j=id∧b∈main.toList++fpi)):=by
  intro i b oi h hd' hb;rcases entry i oi h with ⟨rfl,rfl⟩|⟨rfl,rfl,hne⟩|⟨h1,h2,h3⟩
  ·obtain ⟨k1,k2⟩:=bid b hb;exact ⟨i,o,ho,hd,k1,hro.trans hro'.symm,.inl ⟨rfl,fun h=>k2 h.2⟩⟩
  ·exact ⟨id,o,ho,hd,bnid b (bn b hb),hro.trans hrob.symm,.inr ⟨rfl,rfl,bn b hb⟩⟩
  ·exact ⟨i,oi,h3,hd',(Aby (eo i h1 h2)).1 hb,rfl,.inl ⟨rfl,fun h=>h1 h.1⟩⟩
 have hown: ∀b,Own ι' ((H++ [ob]).set id o') b→Own ι H b:=by
  rintro b ⟨i,oi,h1,h2,h3⟩;obtain ⟨j,oj,k1,k2,k3,k4,_⟩:=back i b oi h1 (Aa4 h2) h3;exact ⟨j,oj,k1,k4.trans h2,k3⟩
 have hlive: ∀b,Live ι' ((H++ [ob]).set id o') b→Live ι H b:=by
  rintro b ⟨i,oi,h1,h2,h3⟩;obtain ⟨j,oj,k1,k2,k3,k4,_⟩:=back i b oi h1 h2 h3;exact ⟨j,oj,k1,k2,k3⟩
 have hl: ∀i oi,H[i]?=some oi→ ∃o'',((H++ [ob]).set id o')[i]?=some o''∧Like ι ι' w w i oi o'':=by
  intro i oi hi;have hlt:=(zh.1 hi).1;by_cases e:i=id
  ·subst e;rw [ho] at hi;obtain rfl:=ze hi;exact ⟨o',qw (by simp;omega),hlike⟩
  ·refine ⟨oi,?_,Like.of (eo i e (by omega)).1 fun _ _ _=>rfl⟩;rw [qy (vf e),qq hlt];exact hi
 refine ⟨⟨hg.fin,?_,?_,fun b ho hf=>hg.sep b (hown b ho) hf,?_,?_⟩,⟨rfl,rfl,rfl,qn _,fun _ _ _=>rfl,fun b _ h=>hown b h,fun _ h=>h,fun _ _ h=> .inl h,hl,fun b _ h=>hlive b h⟩⟩
 ·intro i oi h;rcases entry i oi h with ⟨rfl,rfl⟩|⟨rfl,rfl,hne⟩|⟨h1,h2,h3⟩
  ·exact ho' hl
  ·exact hob h
  ·exact (hg.obj i oi h3).mono (fun _ h=>h) (fun _ _=>rfl) hl (fun _=>eo i h1 h2) (fun _ _ _=>rfl)
 ·intro i j oi oj b hi hj hdi hdj bi bj;obtain ⟨i',oi',k1,k2,k3,_,k4⟩:=back i b oi hi hdi bi;obtain ⟨j',oj',q1,q2,q3,_,q4⟩:=back j b oj hj hdj bj;have e0:=hg.inj i' j' oi' oj' b k1 q1 k2 q2 k3 q3;rcases k4 with ⟨e1,k5⟩|⟨e1,e2,k5⟩<;>rcases q4 with ⟨f1,q5⟩|⟨f1,f2,q5⟩
  ·omega
  ·exact absurd ⟨by omega,q5⟩ k5
  ·exact absurd ⟨by omega,k5⟩ q5
  ·omega
 ·intro i oi b h hd' hr hb;obtain ⟨j,oj,k1,k2,k3,k4,_⟩:=back i b oi h hd' hb;exact hg.rof j oj b k1 k2 (k4.trans hr) k3
 ·intro i oi h hd';rcases entry i oi h with ⟨rfl,rfl⟩|⟨rfl,rfl,hne⟩|⟨h1,h2,h3⟩
  ·rw [eid.1,eid.2];exact ⟨(ui.1 hn2).1,fun b hb h=>hmain b hb ((hmem b).2 (.inl h))⟩
  ·rw [en.1,en.2];have h4:=(ui.1 hn2).2.1;obtain ⟨h5,h6,h7⟩:=ui.1 h4;refine ⟨h6,fun b hb hm=>h7 b ?_ b hm rfl⟩;rw [hb];simp
  ·rw [(eo i h1 h2).1,(eo i h1 h2).2];exact hg.nd i oi h3 hd'
theorem Ahx (hg:Good ι F w H) {id n:Nat} {o o' ob:Ob} {hid':List Nat} (hne:n≠id) (ho:H[id]?=some o) (hn:H[n]?=some ob) (hro:o.ro=false) (hro':o'.ro=false) (hrob:ob.ro=false)
  (hperm:hid'.Perm (ι.hid id++((ι n).toList++ι.hid n)))
  (hlike:Like ι (ι.sh id hid') w w id o o')
  (ho':(∀i oi,H[i]?=some oi→ ∃o'',((H.set n .dead).set id o')[i]?=some o''∧Like ι (ι.sh id hid') w w i oi o'')→ObR (ι.sh id hid') F w ((H.set n .dead).set id o') id o'):
  Good (ι.sh id hid') F w ((H.set n .dead).set id o')∧Step ι F H w (ι.sh id hid') F ((H.set n .dead).set id o') w:=by
 have hidl:=(zh.1 ho).1;have hnl:=(zh.1 hn).1;have hd:=Aa4 hro;have hdn:=Aa4 hrob;have eid:(ι.sh id hid') id=ι id∧(ι.sh id hid').hid id=hid':=Io.sh_eq;have eo: ∀i,i≠id→(ι.sh id hid') i=ι i∧(ι.sh id hid').hid i=ι.hid i:=fun i h=>Io.sh_ne h;have entry: ∀(i:Nat) (oi:Ob),((H.set n .dead).set id o')[i]?=some oi→(i=id∧oi=o')∨(i=n∧oi= .dead)∨(i≠id∧i≠n∧H[i]?=some oi):=by
  intro i oi h;by_cases e:i=id
  ·subst e;rw [qw (by simp;omega)] at h;exact .inl ⟨rfl,(ze h).symm⟩
  ·rw [qy (vf e)] at h;by_cases e2:i=n
   ·subst e2;rw [qw hnl] at h;exact .inr (.inl ⟨rfl,(ze h).symm⟩)
   ·rw [qy (vf e2)] at h;exact .inr (.inr ⟨e,e2,h⟩)
 have bn: ∀b,b∈(ι n).toList++ι.hid n↔Blk ι n b:=by
  intro b;unfold Blk;rw [jp];cases ι n<;>simp [eq_comm]
 have bid: ∀b,Blk (ι.sh id hid') id b→Blk ι id b∨Blk ι n b:=by
  intro b hb;unfold Blk at hb;rw [eid.1,eid.2] at hb;rcases hb with hb|hb
  ·exact .inl (.inl hb)
  ·rw [hperm.mem_iff,jp] at hb;rcases hb with hb|hb
   ·exact .inl (.inr hb)
   ·exact .inr ((bn b).1 hb)
 have back: ∀(i b:Nat) (oi:Ob),((H.set n .dead).set id o')[i]?=some oi→oi.isDead=false→Blk (ι.sh id hid') i b→i≠n∧ ∃(j:Nat) (oj:Ob),H[j]?=some oj∧oj.isDead=false∧Blk ι j b∧oj.ro=oi.ro∧(i=j∨(i=id∧j=n)):=by
  intro i b oi h hd' hb;rcases entry i oi h with ⟨rfl,rfl⟩|⟨rfl,rfl⟩|⟨h1,h2,h3⟩
  ·rcases bid b hb with k|k
   ·exact ⟨vf hne,i,o,ho,hd,k,hro.trans hro'.symm,.inl rfl⟩
   ·exact ⟨vf hne,n,ob,hn,hdn,k,hrob.trans hro'.symm,.inr ⟨rfl,rfl⟩⟩
  ·simp [Ob.isDead] at hd'
  ·exact ⟨h2,i,oi,h3,hd',(Aby (eo i h1)).1 hb,rfl,.inl rfl⟩
 have hown: ∀b,Own (ι.sh id hid') ((H.set n .dead).set id o') b→Own ι H b:=by
  rintro b ⟨i,oi,h1,h2,h3⟩;obtain ⟨_,j,oj,k1,k2,k3,k4,_⟩:=back i b oi h1 (Aa4 h2) h3;exact ⟨j,oj,k1,k4.trans h2,k3⟩
 have hlive: ∀b,Live (ι.sh id hid') ((H.set n .dead).set id o') b→Live ι H b:=by
  rintro b ⟨i,oi,h1,h2,h3⟩;obtain ⟨_,j,oj,k1,k2,k3,k4,_⟩:=back i b oi h1 h2 h3;exact ⟨j,oj,k1,k2,k3⟩
 have hl: ∀i oi,H[i]?=some oi→ ∃o'',((H.set n .dead).set id o')[i]?=some o''∧Like ι (ι.sh id hid') w w i oi o'':=by
  intro i oi hi;by_cases e:i=id
  ·subst e;rw [ho] at hi;obtain rfl:=ze hi;exact ⟨o',qw (by simp;omega),hlike⟩
  ·by_cases e2:i=n
   ·subst e2;exact ⟨.dead,by rw [qy (vf e),qw hnl],.inl rfl⟩
   ·exact ⟨oi,by rw [qy (vf e),qy (vf e2)];exact hi,Like.of (eo i e).1 fun _ _ _=>rfl⟩
 obtain ⟨hnd,hmain⟩:=hg.nd id o ho hd;obtain ⟨hnd2,hmain2⟩:=hg.nd n ob hn hdn;have apart: ∀b,Blk ι id b→Blk ι n b→False:=fun b h1 h2=>hne (hg.inj n id ob o b hn ho hdn hd h2 h1);refine ⟨⟨hg.fin,?_,?_,fun b ho hf=>hg.sep b (hown b ho) hf,?_,?_⟩,⟨rfl,rfl,rfl,qn _,fun _ _ _=>rfl,fun b _ h=>hown b h,fun _ h=>h,fun _ _ h=> .inl h,hl,fun b _ h=>hlive b h⟩⟩
 ·intro i oi h;rcases entry i oi h with ⟨rfl,rfl⟩|⟨rfl,rfl⟩|⟨h1,h2,h3⟩
  ·exact ho' hl
  ·trivial
  ·exact (hg.obj i oi h3).mono (fun _ h=>h) (fun _ _=>rfl) hl (fun _=>eo i h1) (fun _ _ _=>rfl)
 ·intro i j oi oj b hi hj hdi hdj bi bj;obtain ⟨ni,i',oi',k1,k2,k3,_,k4⟩:=back i b oi hi hdi bi;obtain ⟨nj,j',oj',q1,q2,q3,_,q4⟩:=back j b oj hj hdj bj;have e0:=hg.inj i' j' oi' oj' b k1 q1 k2 q2 k3 q3;rcases k4 with e1|⟨e1,e2⟩<;>rcases q4 with f1|⟨f1,f2⟩<;>omega
 ·intro i oi b h hd' hr hb;obtain ⟨_,j,oj,k1,k2,k3,k4,_⟩:=back i b oi h hd' hb;exact hg.rof j oj b k1 k2 (k4.trans hr) k3
 ·intro i oi h hd';rcases entry i oi h with ⟨rfl,rfl⟩|⟨rfl,rfl⟩|⟨h1,h2,h3⟩
  ·rw [eid.1,eid.2];refine ⟨?_,fun b hb hm=> ?_⟩
   ·rw [hperm.nodup_iff,ui];refine ⟨hnd,?_,fun a ha b hb e=> ?_⟩
    ·rw [ui];refine ⟨by cases ι n<;>simp,hnd2,fun a ha b hb e=> ?_⟩;subst e;exact hmain2 a (by cases h:ι n<;>simp_all) hb
    ·subst e;exact apart a (.inr ha) ((bn a).1 hb)
   ·rw [hperm.mem_iff,jp] at hm;rcases hm with hm|hm
    ·exact hmain b hb hm
    ·exact apart b (.inl hb) ((bn b).1 hm)
  ·simp [Ob.isDead] at hd'
  ·rw [(eo i h1).1,(eo i h1).2];exact hg.nd i oi h3 hd'
theorem ObR.closed {n:Nat} {ob:Ob} {x:T} {c:Value} (hob:ObR ι F w H n ob) (hn:H[n]?=some ob) (hs:x.shut=true) (hx:ob=opOb x∨ ∃s xs sp,x= .row s xs∧ob= .arr s xs sp false) (hv:VR ι F w H (opV n x) c):
  CR F w x c ((ι n).toList++ι.hid n):=by
 have tr: ∀ {y:T} {c:Value} {fp:List Nat},HC ι F w H (.t y) c fp→CR F w y c fp:=by
  intro y c fp h;cases h with
  |v _ _ h=>exact .tr _ _ h.t_inv
  |t _ _ _ h=>exact h
 have row: ∀ {s:Nat} {xs:List T} {sp:Option Nat},H[n]?=some (.arr s xs sp false)→ObR ι F w H n (.arr s xs sp false)→VR ι F w H (.all n none) c→CR F w (.row s xs) c ((ι n).toList++ι.hid n):=by
  intro s xs sp hn hob hv;obtain ⟨h0,hh,hob⟩:=hob;cases hv with
  |all _ _ _ ho=>
  unfold OwnSl at ho;rw [hn] at ho;obtain ⟨a,cap,rfl,k1,k2,k3⟩:=ho;simp only [wc] at*;rcases hob with ⟨h1,rfl,_⟩|⟨b,cs,e,h1,h2,h3,h4,h5,h6,h7⟩
  ·rw [h1] at k3;simp only at k3;subst k3;rw [h1,hh];exact .row0 s a h0
  ·rw [h1] at k3;simp only [jk,wq] at k3;rw [h1,hh];refine .row s xs b cs e a cap h0 k1 k3.1 ?_ h2 h6 h7;have:=k3.2;unfold blk at this;rw [h2] at this;exact this
 rcases hx with rfl|⟨s,xs,sp,rfl,rfl⟩
 ·cases x<;>simp [T.shut] at hs
  ·rename_i s y;obtain ⟨h1,h2,_,b,cs,e,fp,h3,h4,h5,h6,h7,h8⟩:=hob;cases hv with
   |ptr _ _ _ _ ho=>
   unfold OwnPtr at ho;rw [hn] at ho;obtain ⟨b',hb,rfl⟩:=ho;rw [hb] at h3;obtain rfl:=ze h3;rw [hb,h8];refine .box s y b' cs e fp (fun e=>h1 (by rw [e])) ?_ h4 h5 h6 fun j t c ht hcc=>tr (h7 j _ c (by rw [V.cells_t];simp [ht]) hcc);have:(V.t y).cells.length=s:=h2;rw [V.cells_t] at this;simpa using this
  ·exact row hn hob hv
  ·rename_i s xs;obtain ⟨h0,ht,hob⟩:=hob;cases hv with
   |all _ _ _ ho=>
   unfold OwnSl at ho;rw [hn] at ho;obtain ⟨a,cap,rfl,k1,k2,k3⟩:=ho;simp only [wc] at*;rcases hob with ⟨h1,rfl,hh⟩|⟨b,cs,e,fp,h1,h2,h3,h4,h5,h6,h7,h8⟩
   ·rw [h1] at k3;simp only at k3;subst k3;rw [h1,hh];exact .vrow0 s a h0
   ·rw [h1] at k3;simp only [jk,wq] at k3;rw [h1,h8];have mem: ∀ {i:Nat} {y:T},xs[i]?=some y→memP [] xs i=some (.t y):=fun h=>by simp [memP,findP,h]
    refine .vrow s xs b cs e a cap fp h0 k1 k3.1 ?_ h2 h5 (fun i y hy=> ?_) (fun i j y t c hy ht hcc=>tr (h7 i j _ _ c (mem hy) (by rw [V.cells_t];simp [ht]) hcc))
    ·have:=k3.2;unfold blk at this;rw [h2] at this;exact this
    ·obtain ⟨q1,q2⟩:=h6 i _ (mem hy);refine ⟨fun e=>q1 (by rw [e]),?_⟩;have:(V.t y).cells.length=s:=q2;rw [V.cells_t] at this;simpa using this
  ·rename_i ks xs;obtain ⟨h0,ht,b,es,clock,fp,h1,h2,h3,h4,h5,h6,h7,h8⟩:=hob;cases hv with
   |map _ _ ho=>
   unfold OwnMap at ho;rw [hn] at ho;obtain ⟨b',hb,rfl⟩:=ho;rw [hb] at h1;obtain rfl:=ze h1;rw [hb,h8];have mem: ∀ {i:Nat} {y:T},xs[i]?=some y→memP [] xs i=some (.t y):=fun h=>by simp [memP,findP,h]
   exact .dict ks xs b' es clock fp h2 h3 h0 h4 h5 (fun i y hy e=>h6 i _ (mem hy) (by rw [e])) (fun i y e hy he=>tr (h7 i _ e (mem hy) he))
 ·exact row hn hob hv
def PlaceR (ι:Io) (F:Nat→Prop) (w:World) (H:Heap) (id:Nat) (mk:V→Ob) (v0:V) (c:Value) (fpc:List Nat) (L:List Nat→List Nat):Prop:=
 HC ι F w H v0 c fpc∧ι.hid id=L fpc∧(∀l,(L l).Perm (L []++l))∧(∀v,(mk v).ro=false)∧(∀(ι ι':Io) v v',ι' id=ι id→Like ι ι' w w id (mk v) (mk v'))∧
 ∀(ι':Io) (H':Heap) (v1:V) (fp1:List Nat),ι' id=ι id→ι'.hid id=L fp1→(∀i o,H[i]?=some o→ ∃o',H'[i]?=some o'∧Like ι ι' w w i o o')→HC ι' F w H' v1 c fp1→v1≠ .t .any→v1.cells= [v1]→ObR ι' F w H' id (mk v1)
theorem Afj (hg:Good ι F w H) {id:Nat} {mk:V→Ob} {x:T} {c:Value} {fpc:List Nat} {L:List Nat→List Nat} (ho:H[id]?=some (mk (.t x))) (hs:x.shut=true) (hp:PlaceR ι F w H id mk (.t x) c fpc L):
  ∃ι',Good ι' F w ((H++ [opOb x]).set id (mk (opV H.length x)))∧Step ι F H w ι' F ((H++ [opOb x]).set id (mk (opV H.length x))) w:=by
 obtain ⟨p1,p2,p3,p4,p5,p6⟩:=hp;have hcr:CR F w x c fpc:=by
  cases p1 with
  |v _ _ h=>have:=h.t_inv;cases this<;>simp [T.shut] at hs
  |t _ _ _ h=>exact h
 obtain ⟨main,fpi,rfl,_,k⟩:=hcr.opened hs;have hid:=(zh.1 ho).1;have e1:updH (ι.sh id (L [])) H.length main fpi id=ι id∧(updH (ι.sh id (L [])) H.length main fpi).hid id=L []:=by
  rw [(Ac6 (by omega)).1,(Ac6 (by omega)).2];exact Io.sh_eq
 have e2:updH (ι.sh id (L [])) H.length main fpi H.length=main∧(updH (ι.sh id (L [])) H.length main fpi).hid H.length=fpi:=AaK;have hget:((H++ [opOb x]).set id (mk (opV H.length x)))[H.length]?=some (opOb x):=by
  rw [qy (by omega),qg (qn _)];simp
 obtain ⟨q1,q2⟩:=k (updH (ι.sh id (L [])) H.length main fpi) ((H++ [opOb x]).set id (mk (opV H.length x))) H.length e2.1 e2.2 hget;refine ⟨_,AnY hg ho (p4 _) (p4 _) (Aqk hs) (by rw [p2];exact p3 _) (p5 _ _ _ _ e1.1) (fun _=>q1) (fun hl=>p6 _ _ _ [] e1.1 e1.2 hl (.v _ _ q2) ?_ ?_)⟩
 ·cases x<;>simp [T.shut] at hs<;>simp [opV]
 ·cases x<;>simp [T.shut] at hs<;>rfl
theorem Aki (hg:Good ι F w H) {id n:Nat} {mk:V→Ob} {ob:Ob} {x:T} {c:Value} {fpc:List Nat} {L:List Nat→List Nat} (hne:n≠id) (ho:H[id]?=some (mk (opV n x))) (hn:H[n]?=some ob) (hrob:ob.ro=false) (hs:x.shut=true)
  (hx:ob=opOb x∨ ∃s xs sp,x= .row s xs∧ob= .arr s xs sp false) (hp:PlaceR ι F w H id mk (opV n x) c fpc L):
  ∃ι',Good ι' F w ((H.set n .dead).set id (mk (.t x)))∧Step ι F H w ι' F ((H.set n .dead).set id (mk (.t x))) w:=by
 obtain ⟨p1,p2,p3,p4,p5,p6⟩:=hp;have hv:VR ι F w H (opV n x) c∧fpc= []:=p1.open (by cases x<;>simp [T.shut] at hs<;>rfl);obtain ⟨hv,rfl⟩:=hv;have hcr:=(hg.obj n ob hn).closed hn hs hx hv;have e1:(ι.sh id (L ((ι n).toList++ι.hid n))) id=ι id∧(ι.sh id (L ((ι n).toList++ι.hid n))).hid id=L ((ι n).toList++ι.hid n):=Io.sh_eq;refine ⟨_,Ahx hg hne ho hn (p4 _) (p4 _) hrob (by rw [p2];exact p3 _) (p5 _ _ _ _ e1.1) (fun hl=>p6 _ _ _ _ e1.1 e1.2 hl (.t _ _ _ hcr) (fun e=>by simp at e;subst e;simp [T.shut] at hs) ?_)⟩;cases x<;>simp [T.shut] at hs<;>rfl
def oneV:List V→V
 | [u]=>u
 |_=> .tup []
def likeV (v:V) (l:List V):V:=match v with
 | .t (.agg _)=>mkAgg l
 | .agg _=>mkAgg l
 |_=>oneV l
theorem Ao7 {l:List V} {R:V→Prop} (h:wpQ S (match l with| [v]=>Q.ret v|_=> .fail) R):R (oneV l):=by
 match l,h with
 | [u],h=>exact h
 | [],h=>exact (show False from h).elim
 |_::_::_,h=>exact (show False from h).elim
theorem Ado {v:V} {l:List V} {R:V→Prop} (h:wpQ S (cellsLike v l) R):R (likeV v l):=by
 cases v with
 |t x=>cases x<;>first|exact Aav h|exact Ao7 h
 |agg vs=>exact Aav h
 |_=>exact Ao7 h
theorem AeI (l:List V):mkAgg l≠ .t .any:=by unfold mkAgg;split<;>simp
end
end Go.Eva
namespace Go.Eva
open Go.RowKit
section
variable {S:Task→(Res→Prop)→Prop} {w:World} {ι:Io} {F:Nat→Prop} {H:Heap}
def Lk (v:V) (l:List V):Prop:=(likeV v l).cells=l∧likeV v l≠ .t .any
theorem Lk.set {v:V} {l:List V} {j:Nat} {x u:V} (h:Lk v l) (hx:l[j]?=some x) (hu:u.cells= [u]) (hn:u≠ .t .any):Lk v (l.set j u):=by
 obtain ⟨h1,h2⟩:=h;have one:(oneV l).cells=l→(oneV (l.set j u)).cells=l.set j u∧oneV (l.set j u)≠ .t .any:=by
  intro h
  match l,h with
  | [],h=>simp [oneV,V.cells] at h
  | [y],h=>
   cases j with
   |zero=>exact ⟨hu,hn⟩
   |succ j=>simp at hx
  |_::_::_,h=>simp [oneV,V.cells] at h
 cases v with
 |t y=>cases y<;>first|exact ⟨Abh _,AeI _⟩|exact one h1
 |agg vs=>exact ⟨Abh _,AeI _⟩
 |_=>exact one h1
theorem Lk.self {v:V} (hn:v≠ .t .any):Lk v v.cells:=by
 cases v with
 |t y=>cases y<;>first|exact ⟨Abh _,AeI _⟩|exact ⟨rfl,hn⟩
 |agg vs=>exact ⟨Abh _,AeI _⟩
 |_=>exact ⟨rfl,hn⟩
theorem AaL {ι':Io} {H':Heap} (hl: ∀i o,H[i]?=some o→ ∃o',H'[i]?=some o'∧Like ι ι' w w i o o') {x:V} {c:Value} {fp:List Nat} (h:HC ι F w H x c fp):HC ι' F w H' x c fp:=
 h.mono (fun _ h=>h) (fun _ _=>rfl) hl (fun _ _=>rfl)
theorem AjA (hg:Good ι F w H) {id s j:Nat} {v0:V} {l:List V} {x:V} (ho:H[id]?=some (.one s (likeV v0 l) false)) (hk:Lk v0 l) (hx:l[j]?=some x):
  ∃c fpc L,PlaceR ι F w H id (fun u=> .one s (likeV v0 (l.set j u)) false) x c fpc L:=by
 obtain ⟨h1,h2,_,b,cs,e,fp,h3,h4,h5,h6,h7,h8⟩:=hg.obj id _ ho;have hsz:l.length=s:=by rw [←h2];show _=(likeV v0 l).cells.length;rw [hk.1]
 have hj:j<s:=by have:=(zh.1 hx).1;omega
 have hc:cs[j]?=some (cs[j]'(by omega)):=qp (by omega);refine ⟨cs[j]'(by omega),fp j,fun X=>(jq s).flatMap (fset fp j X),h7 j x _ (by rw [hk.1];exact hx) hc,by simp only [Ae9];exact h8,fun X=>Ada fp j X s hj,fun _=>rfl,fun _ _ v v' h=> .inr ⟨h,_,false,rfl⟩,?_⟩;intro ι' H' v1 fp1 e1 e2 hl hc1 hn1 hs1;have hk1:=hk.set hx hs1 hn1;refine ⟨hk1.2,?_,by simp,b,cs,e,fset fp j fp1,e1.trans h3,h4,h5,h6,?_,e2⟩
 ·show (likeV v0 (l.set j v1)).cells.length=s;rw [hk1.1];simpa using hsz
 ·intro k y d hy hd;rw [hk1.1] at hy;by_cases hkj:k=j
  ·subst hkj;rw [qw (by omega)] at hy;obtain rfl:=ze hy;rw [hc] at hd;obtain rfl:=ze hd;simp only [fset,if_true];exact hc1
  ·rw [qy (vf hkj)] at hy;simp only [fset,hkj,if_false];exact AaL hl (h7 k y d (by rw [hk.1];exact hy) hd)
theorem AaB {i:Nat} {v:V} {r:List (Nat×V)} {xs:List T}:memP ((i,v)::r) xs i=some v:=by simp [memP,findP]
theorem AaJ {i k:Nat} {v:V} {r:List (Nat×V)} {xs:List T} (h:k≠i):memP ((i,v)::r) xs k=memP r xs k:=by simp [memP,findP,h]
theorem AjB (hg:Good ι F w H) {id s i j:Nat} {v0:V} {l:List V} {x:V} {xs:List T} {r:List (Nat×V)} (ho:H[id]?=some (.vec s xs ((i,likeV v0 l)::r))) (hk:Lk v0 l) (hx:l[j]?=some x):
  ∃c fpc L,PlaceR ι F w H id (fun u=> .vec s xs ((i,likeV v0 (l.set j u))::r)) x c fpc L:=by
 obtain ⟨h0,ht,hob⟩:=hg.obj id _ ho;have hi:i<xs.length:=ht.2 i (by simp [keysP]);rcases hob with ⟨_,hxs,_⟩|⟨b,cs,e,fp,h3,h4,h5,h6,h7,h9,h10,h8⟩
 ·rw [hxs] at hi;simp at hi
 have hm:memP ((i,likeV v0 l)::r) xs i=some (likeV v0 l):=AaB;have hsz:l.length=s:=by have:=(h9 i _ hm).2;rw [←this];show _=(likeV v0 l).cells.length;rw [hk.1]
 have hj:j<s:=by have:=(zh.1 hx).1;omega
 have hlt:i*s+j<cs.size:=by
  have:(i+1)*s≤xs.length*s:=qj s (by omega);rw [jc,xu] at this;omega
 have hc:cs[i*s+j]?=some (cs[i*s+j]'hlt):=qp hlt
 let g:=fun i=>(jq s).flatMap (fp i)
 refine ⟨cs[i*s+j]'hlt,fp i j,fun X=>(jq xs.length).flatMap (fset g i ((jq s).flatMap (fset (fp i) j X))),h10 i j _ x _ hm (by rw [hk.1];exact hx) hc,?_,fun X=> ?_,fun _=>rfl,fun _ _ v v' h=> .inr ⟨h,fun _ _=>rfl,xs,_,rfl,rfl⟩,?_⟩
 ·simp only [Ae9];rw [show (jq s).flatMap (fp i)=g i from rfl,Ae9,h8]
 ·refine (Ada g i _ xs.length hi).trans (((Ada (fp i) j X s hj).append_left _).trans ?_);rw [←ql];exact ((Ada g i _ xs.length hi).symm).append_right X
 intro ι' H' v1 fp1 e1 e2 hl hc1 hn1 hs1;have hk1:=hk.set hx hs1 hn1;have hmem: ∀(k:Nat) (v:V),memP ((i,likeV v0 (l.set j v1))::r) xs k=some v→(k=i∧v=likeV v0 (l.set j v1))∨(k≠i∧memP ((i,likeV v0 l)::r) xs k=some v):=by
  intro k v hv;by_cases hki:k=i
  ·subst hki;rw [AaB] at hv;exact .inl ⟨rfl,(ze hv).symm⟩
  ·rw [AaJ hki] at hv;exact .inr ⟨hki,by rw [AaJ hki];exact hv⟩
 refine ⟨h0,⟨by simpa [keysP] using ht.1,by simpa [keysP] using ht.2⟩,.inr ⟨b,cs,e,fun k=>if k=i then fset (fp i) j fp1 else fp k,e1.trans h3,h4,h5,h6,h7,?_,?_,?_⟩⟩
 ·intro k v hv;rcases hmem k v hv with ⟨rfl,rfl⟩|⟨_,hv⟩
  ·refine ⟨hk1.2,?_⟩;show (likeV v0 (l.set j v1)).cells.length=s;rw [hk1.1];simpa using hsz
  ·exact h9 k v hv
 ·intro k m v y d hv hy hd;rcases hmem k v hv with ⟨rfl,rfl⟩|⟨hki,hv⟩
  ·rw [hk1.1] at hy;simp only [if_true];by_cases hmj:m=j
   ·subst hmj;rw [qw (by omega)] at hy;obtain rfl:=ze hy;rw [hc] at hd;obtain rfl:=ze hd;simp only [fset,if_true];exact hc1
   ·rw [qy (vf hmj)] at hy;simp only [fset,hmj,if_false];exact AaL hl (h10 k m _ y d hm (by rw [hk.1];exact hy) hd)
  ·simp only [hki,if_false];exact AaL hl (h10 k m v y d hv hy hd)
 ·rw [e2];show (jq xs.length).flatMap _=_;congr 1;funext k;by_cases hki:k=i
  ·subst hki;simp [fset]
  ·simp [fset,hki,g]
theorem Aj9 (hg:Good ι F w H) {id i:Nat} {x:V} {ks xs:List T} {r:List (Nat×V)} (ho:H[id]?=some (.map ks xs ((i,x)::r))):
  ∃c fpc L,PlaceR ι F w H id (fun u=> .map ks xs ((i,u)::r)) x c fpc L:=by
 obtain ⟨h0,ht,b,es,clock,fp,h3,h4,h5,h6,h7,h9,h10,h8⟩:=hg.obj id _ ho;have hi:i<xs.length:=ht.2 i (by simp [keysP]);have hm:memP ((i,x)::r) xs i=some x:=AaB;have he:es[i]?=some (es[i]'(by omega)):=qp (by omega);refine ⟨(es[i]'(by omega)).val,fp i,fun X=>(jq ks.length).flatMap (fset fp i X),h10 i x _ hm he,by simp only [Ae9];exact h8,fun X=>Ada fp i X ks.length (by omega),fun _=>rfl,fun _ _ v v' h=> .inr ⟨h,rfl⟩,?_⟩;intro ι' H' v1 fp1 e1 e2 hl hc1 hn1 hs1;have hmem: ∀(k:Nat) (v:V),memP ((i,v1)::r) xs k=some v→(k=i∧v=v1)∨(k≠i∧memP ((i,x)::r) xs k=some v):=by
  intro k v hv;by_cases hki:k=i
  ·subst hki;rw [AaB] at hv;exact .inl ⟨rfl,(ze hv).symm⟩
  ·rw [AaJ hki] at hv;exact .inr ⟨hki,by rw [AaJ hki];exact hv⟩
 refine ⟨h0,⟨by simpa [keysP] using ht.1,by simpa [keysP] using ht.2⟩,b,es,clock,fset fp i fp1,e1.trans h3,h4,h5,h6,h7,?_,?_,e2⟩
 ·intro k v hv;rcases hmem k v hv with ⟨rfl,rfl⟩|⟨_,hv⟩
  ·exact hn1
  ·exact h9 k v hv
 ·intro k v e hv hee;rcases hmem k v hv with ⟨rfl,rfl⟩|⟨hki,hv⟩
  ·rw [he] at hee;obtain rfl:=ze hee;simp only [fset,if_true];exact hc1
  ·simp only [fset,hki,if_false];exact AaL hl (h10 k v e hv hee)
theorem retold (hg:Good ι F w H) {id:Nat} {o o':Ob} (ho:H[id]?=some o) (hro:o'.ro=o.ro) (hlike:Like ι ι w w id o o')
  (hob:(∀i oi,H[i]?=some oi→ ∃o'',(H.set id o')[i]?=some o''∧Like ι ι w w i oi o'')→ObR ι F w (H.set id o') id o'):Good ι F w (H.set id o')∧Step ι F H w ι F (H.set id o') w:=
 Adn hg ho rfl rfl rfl rfl (fun _ _=>rfl) hlike (fun _=>hro) hob
theorem AhO (hg:Good ι F w H) {id s:Nat} {v:V} (ho:H[id]?=some (.one s v false)):Good ι F w (H.set id (.one s (likeV v v.cells) false))∧Step ι F H w ι F (H.set id (.one s (likeV v v.cells) false)) w:=by
 obtain ⟨h1,h2,h0,b,cs,e,fp,h3,h4,h5,h6,h7,h8⟩:=hg.obj id _ ho;have hk:=Lk.self h1;exact retold hg ho rfl (.inr ⟨rfl,_,false,rfl⟩) fun hl=>⟨hk.2,by show (likeV v v.cells).cells.length=s;rw [hk.1];exact h2,h0,b,cs,e,fp,h3,h4,h5,h6,fun j x c hx hc=>AaL hl (h7 j x c (by rw [hk.1] at hx;exact hx) hc),h8⟩
theorem AeQ {i n:Nat} {v:V} {r ps:List (Nat×V)} (ht:Told ps n) (hi:i<n) (hr:i∉keysP r) (hs:(keysP r).Sublist (keysP ps)):Told ((i,v)::r) n:=by
 refine ⟨?_,fun k hk=> ?_⟩
 ·simp only [keysP,qo,vw];exact ⟨hr,ht.1.sublist hs⟩
 ·simp only [keysP,qo,qf] at hk;rcases hk with rfl|hk
  ·exact hi
  ·exact ht.2 k (hs.subset hk)
theorem Adv {k:Nat} {r ps:List (Nat×V)} {xs:List T} (h:findP k r=findP k ps):memP r xs k=memP ps xs k:=by unfold memP;rw [h]
theorem AhP (hg:Good ι F w H) {id s i:Nat} {xs:List T} {ps r:List (Nat×V)} {v:V} (ho:H[id]?=some (.vec s xs ps)) (hv:memP ps xs i=some v) (h1:i∉keysP r) (h2:(keysP r).Sublist (keysP ps)) (h3: ∀j,j≠i→findP j r=findP j ps):
  Good ι F w (H.set id (.vec s xs ((i,likeV v v.cells)::r)))∧Step ι F H w ι F (H.set id (.vec s xs ((i,likeV v v.cells)::r))) w:=by
 obtain ⟨h0,ht,hob⟩:=hg.obj id _ ho;have hi:=Abv ht hv;refine retold hg ho rfl (.inr ⟨rfl,fun _ _=>rfl,xs,_,rfl,rfl⟩) fun hl=>⟨h0,AeQ ht hi h1 h2,?_⟩
 rcases hob with ⟨_,hxs,_⟩|⟨b,cs,e,fp,h3',h4,h5,h6,h7,h9,h10,h8⟩
 ·rw [hxs] at hi;simp at hi
 have hk:=Lk.self (h9 i v hv).1;have hmem: ∀(k:Nat) (u:V),memP ((i,likeV v v.cells)::r) xs k=some u→(k=i∧u=likeV v v.cells)∨(k≠i∧memP ps xs k=some u):=by
  intro k u hu;by_cases hki:k=i
  ·subst hki;rw [AaB] at hu;exact .inl ⟨rfl,(ze hu).symm⟩
  ·rw [AaJ hki,Adv (h3 k hki)] at hu;exact .inr ⟨hki,hu⟩
 refine .inr ⟨b,cs,e,fp,h3',h4,h5,h6,h7,fun k u hu=> ?_,fun k m u y d hu hy hd=> ?_,h8⟩
 ·rcases hmem k u hu with ⟨rfl,rfl⟩|⟨_,hu⟩
  ·exact ⟨hk.2,by show (likeV v v.cells).cells.length=s;rw [hk.1];exact (h9 k v hv).2⟩
  ·exact h9 k u hu
 ·rcases hmem k u hu with ⟨rfl,rfl⟩|⟨_,hu⟩
  ·rw [hk.1] at hy;exact AaL hl (h10 k m v y d hv hy hd)
  ·exact AaL hl (h10 k m u y d hu hy hd)
theorem Am8 (hg:Good ι F w H) {id i:Nat} {ks xs:List T} {ps r:List (Nat×V)} {v:V} (ho:H[id]?=some (.map ks xs ps)) (hv:memP ps xs i=some v) (h1:i∉keysP r) (h2:(keysP r).Sublist (keysP ps)) (h3: ∀j,j≠i→findP j r=findP j ps):
  Good ι F w (H.set id (.map ks xs ((i,v)::r)))∧Step ι F H w ι F (H.set id (.map ks xs ((i,v)::r))) w:=by
 obtain ⟨h0,ht,b,es,clock,fp,h3',h4,h5,h6,h7,h9,h10,h8⟩:=hg.obj id _ ho;have hi:=Abv ht hv;have hmem: ∀(k:Nat) (u:V),memP ((i,v)::r) xs k=some u→memP ps xs k=some u:=by
  intro k u hu;by_cases hki:k=i
  ·subst hki;rw [AaB] at hu;rw [hv];exact hu
  ·rw [AaJ hki,Adv (h3 k hki)] at hu;exact hu
 exact retold hg ho rfl (.inr ⟨rfl,rfl⟩) fun hl=>⟨h0,AeQ ht hi h1 h2,b,es,clock,fp,h3',h4,h5,h6,h7,fun k u hu=>h9 k u (hmem k u hu),fun k u e hu he=>AaL hl (h10 k u e (hmem k u hu) he),h8⟩
theorem AeM (hg:Good ι F w H) {id s i:Nat} {xs:List T} {r:List (Nat×V)} {x:T} (ho:H[id]?=some (.vec s xs ((i,.t x)::r))):
  Good ι F w (H.set id (.vec s (xs.set i x) r))∧Step ι F H w ι F (H.set id (.vec s (xs.set i x) r)) w:=by
 obtain ⟨h0,ht,hob⟩:=hg.obj id _ ho;have hi:i<xs.length:=ht.2 i (by simp [keysP]);have hn:i∉keysP r∧(keysP r).Nodup:=by simpa [keysP] using ht.1
 have hfi:findP i r=none:=by
  cases h:findP i r with
  |none=>rfl
  |some v=>exact absurd (Acf h) hn.1
 have hmem: ∀(k:Nat) (u:V),memP r (xs.set i x) k=some u→memP ((i,.t x)::r) xs k=some u:=by
  intro k u hu;by_cases hki:k=i
  ·subst hki;rw [AaB];unfold memP at hu;rw [hfi,qw hi] at hu;exact hu
  ·rw [AaJ hki];unfold memP at hu⊢;rw [qy (vf hki)] at hu;exact hu
 have hto:Told r (xs.set i x).length:=⟨hn.2,fun k hk=>by rw [vm];exact ht.2 k (by simp only [keysP,qo,qf];exact .inr hk)⟩
 refine retold hg ho rfl (.inr ⟨rfl,fun _ _=>rfl,_,_,rfl,by simp⟩) fun hl=>⟨h0,hto,?_⟩
 rcases hob with ⟨_,hxs,_⟩|⟨b,cs,e,fp,h3',h4,h5,h6,h7,h9,h10,h8⟩
 ·rw [hxs] at hi;simp at hi
 exact .inr ⟨b,cs,e,fp,h3',h4,by rw [vm];exact h5,h6,h7,fun k u hu=>h9 k u (hmem k u hu),fun k m u y d hu hy hd=>AaL hl (h10 k m u y d (hmem k u hu) hy hd),by rw [vm];exact h8⟩
theorem AiF (hg:Good ι F w H) {id i:Nat} {ks xs:List T} {r:List (Nat×V)} {x:T} (ho:H[id]?=some (.map ks xs ((i,.t x)::r))):
  Good ι F w (H.set id (.map ks (xs.set i x) r))∧Step ι F H w ι F (H.set id (.map ks (xs.set i x) r)) w:=by
 obtain ⟨h0,ht,b,es,clock,fp,h3',h4,h5,h6,h7,h9,h10,h8⟩:=hg.obj id _ ho;have hi:i<xs.length:=ht.2 i (by simp [keysP]);have hn:i∉keysP r∧(keysP r).Nodup:=by simpa [keysP] using ht.1
 have hfi:findP i r=none:=by
  cases h:findP i r with
  |none=>rfl
  |some v=>exact absurd (Acf h) hn.1
 have hmem: ∀(k:Nat) (u:V),memP r (xs.set i x) k=some u→memP ((i,.t x)::r) xs k=some u:=by
  intro k u hu;by_cases hki:k=i
  ·subst hki;rw [AaB];unfold memP at hu;rw [hfi,qw hi] at hu;exact hu
  ·rw [AaJ hki];unfold memP at hu⊢;rw [qy (vf hki)] at hu;exact hu
 have hto:Told r (xs.set i x).length:=⟨hn.2,fun k hk=>by rw [vm];exact ht.2 k (by simp only [keysP,qo,qf];exact .inr hk)⟩
 exact retold hg ho rfl (.inr ⟨rfl,rfl⟩) fun hl=>⟨by rw [vm];exact h0,hto,b,es,clock,fp,h3',h4,h5,h6,h7,fun k u hu=>h9 k u (hmem k u hu),fun k u e hu he=>AaL hl (h10 k u e (hmem k u hu) he),h8⟩
theorem Acg {i:Nat} {v:V}: ∀ {ps:List (Nat×V)},(keysP ps).Nodup→(findP i ps=some v↔(i,v)∈ps)
 | [],_=>by simp [findP]
 |(j,x)::r,h=>by
  have h':j∉keysP r∧(keysP r).Nodup:=by simpa [keysP] using h
  unfold findP;by_cases e:i=j
  ·subst e;simp only [if_true,j0,qf,m6,true_and];refine ⟨fun h=> .inl h.symm,fun h=> ?_⟩;rcases h with rfl|h
   ·rfl
   ·exact absurd (List.mem_map.2 ⟨_,h,rfl⟩) h'.1
  ·simp only [e,if_false,qf,m6,false_and,false_or];exact Acg h'.2
theorem Amt {ps ps':List (Nat×V)} (h:ps.Perm ps') (hn:(keysP ps).Nodup) (i:Nat):findP i ps=findP i ps':=by
 have hn':(keysP ps').Nodup:=(h.map xl).nodup_iff.1 hn;cases h1:findP i ps with
 |some v=>
  have:=(Acg hn).1 h1;rw [((Acg hn').2 (h.mem_iff.1 this))]
 |none=>
  cases h2:findP i ps' with
  |none=>rfl
  |some v=>
   have:=(Acg hn).2 (h.mem_iff.2 ((Acg hn').1 h2));rw [h1] at this;contradiction
theorem AjW {ps ps':List (Nat×V)} {n:Nat} (h:ps.Perm ps') (ht:Told ps n):Told ps' n:=
 ⟨(h.map xl).nodup_iff.1 ht.1,fun i hi=>ht.2 i ((h.map xl).mem_iff.2 hi)⟩
theorem Ajz {ps ps':List (Nat×V)} {xs:List T} (h:ps.Perm ps') (hn:(keysP ps).Nodup) (i:Nat):memP ps' xs i=memP ps xs i:=by
 unfold memP;rw [Amt h hn]
theorem AlP (hg:Good ι F w H) {id s:Nat} {xs:List T} {ps ps':List (Nat×V)} (ho:H[id]?=some (.vec s xs ps)) (hp:ps.Perm ps'):
  Good ι F w (H.set id (.vec s xs ps'))∧Step ι F H w ι F (H.set id (.vec s xs ps')) w:=by
 obtain ⟨h0,ht,hob⟩:=hg.obj id _ ho;have hm:=fun i=>Ajz (xs:=xs) hp ht.1 i;refine retold hg ho rfl (.inr ⟨rfl,fun _ _=>rfl,xs,_,rfl,rfl⟩) fun hl=>⟨h0,AjW hp ht,?_⟩
 rcases hob with h|⟨b,cs,e,fp,h3',h4,h5,h6,h7,h9,h10,h8⟩
 ·exact .inl h
 ·exact .inr ⟨b,cs,e,fp,h3',h4,h5,h6,h7,fun k u hu=>h9 k u (by rw [←hm];exact hu),fun k m u y d hu hy hd=>AaL hl (h10 k m u y d (by rw [←hm];exact hu) hy hd),h8⟩
theorem AlO (hg:Good ι F w H) {id:Nat} {ks xs:List T} {ps ps':List (Nat×V)} (ho:H[id]?=some (.map ks xs ps)) (hp:ps.Perm ps'):
  Good ι F w (H.set id (.map ks xs ps'))∧Step ι F H w ι F (H.set id (.map ks xs ps')) w:=by
 obtain ⟨h0,ht,b,es,clock,fp,h3',h4,h5,h6,h7,h9,h10,h8⟩:=hg.obj id _ ho;have hm:=fun i=>Ajz (xs:=xs) hp ht.1 i;exact retold hg ho rfl (.inr ⟨rfl,rfl⟩) fun hl=>⟨h0,AjW hp ht,b,es,clock,fp,h3',h4,h5,h6,h7,fun k u hu=>h9 k u (by rw [←hm];exact hu),fun k u e hu he=>AaL hl (h10 k u e (by rw [←hm];exact hu) he),h8⟩
end
end Go.Eva
namespace Go.Eva
open Go.RowKit
section
variable {cx:Cx} {S:Task→(Res→Prop)→Prop} {w:World} {ι:Io} {F:Nat→Prop} {H:Heap}
theorem AlG {H:Heap} {id:Nat} {a b ob:Ob} (h:id<H.length):(H.set id a++ [ob]).set id b=(H++ [ob]).set id b:=by
 rw [List.set_append_left _ _ (by simpa using h),List.set_append_left _ _ h,y6]
theorem Aj4 {n:Nat} {x:T} (h:x.shut=true):(opV n x).cells= [opV n x]∧opV n x≠ .t .any:=by
 cases x<;>simp [T.shut] at h<;>exact ⟨rfl,by simp [opV]⟩
theorem AiP {x:V} {H:Heap} {R:V×Heap→Prop} (h:wpQ S (openC x H) R):(x.shut=false∧R (x,H))∨ ∃y,x= .t y∧y.shut=true∧R (opV H.length y,H++ [opOb y]):=by
 unfold openC at h;split at h
 ·have h:=Akb (Aaa _ _ _ h);exact .inr ⟨_,rfl,rfl,Aar (Aaa _ _ _ h)⟩
 ·exact .inr ⟨_,rfl,rfl,Aar (Aaa _ _ _ h)⟩
 ·exact .inr ⟨_,rfl,rfl,Aar (Aaa _ _ _ h)⟩
 ·exact .inr ⟨_,rfl,rfl,Aar (Aaa _ _ _ h)⟩
 ·rename_i h1 h2 h3 h4;have h:=Aav (Aaa _ _ _ h);refine .inl ⟨?_,h⟩;cases x with
  |t y=>cases y<;>first|rfl|exact absurd rfl (h1 _ _)|exact absurd rfl (h2 _ _)|exact absurd rfl (h3 _ _)|exact absurd rfl (h4 _ _)
  |_=>rfl
def Cells (F:Nat→Prop) (w:World) (id:Nat) (mk:List V→Ob) (K:List V→Prop):Prop:=
 ∀(ι:Io) (H:Heap) (l:List V) (j:Nat) (x:T),Good ι F w H→H[id]?=some (mk l)→K l→l[j]?=some (.t x)→x.shut=true→K (l.set j (opV H.length x))∧ ∃ι',Good ι' F w ((H++ [opOb x]).set id (mk (l.set j (opV H.length x))))∧Step ι F H w ι' F ((H++ [opOb x]).set id (mk (l.set j (opV H.length x)))) w
theorem Aj7 {id:Nat} {mk:List V→Ob} {K:List V→Prop} (hc:Cells F w id mk K): ∀ {l pre:List V} {j n:Nat} {Hr:Heap} {ι:Io} {R:List V×Heap→Prop},id<Hr.length→K (pre++l)→Good ι F w (Hr.set id (mk (pre++l)))→wpQ S (openCs j n l Hr) R→
  ∃l' H' ι',R (l',H')∧id<H'.length∧K (pre++l')∧Good ι' F w (H'.set id (mk (pre++l')))∧Step ι F (Hr.set id (mk (pre++l))) w ι' F (H'.set id (mk (pre++l'))) w:=by
 intro l;induction l with
 |nil=>
  intro pre j n Hr ι R hid hK hg h;have h:R ([],Hr):=by cases n<;>exact h
  exact ⟨[],Hr,ι,h,hid,hK,hg,.refl ι F _ w⟩
 |cons x r ih=>
  intro pre j n Hr ι R hid hK hg h;have app: ∀(y:V) (l:List V),pre++y::l=(pre++ [y])++l:=by simp
  cases n with
  |zero=>
   have h:R (x::r,Hr):=by cases j<;>exact h
   exact ⟨x::r,Hr,ι,h,hid,hK,hg,.refl ι F _ w⟩
  |succ n=>
   cases j with
   |succ j=>
    rw [app] at hg hK;obtain ⟨l',H',ι',h1,h2,h3,h4,h5⟩:=ih hid hK hg (Aaa _ _ _ h);simp only [ql,xr,jj] at h3 h4 h5;exact ⟨x::l',H',ι',h1,h2,h3,h4,h5⟩
   |zero=>
    rcases AiP (Aaa _ _ _ h) with ⟨_,h⟩|⟨y,rfl,hs,h⟩
    ·rw [app] at hg hK;obtain ⟨l',H',ι',h1,h2,h3,h4,h5⟩:=ih hid hK hg (Aaa _ _ _ h);simp only [ql,xr,jj] at h3 h4 h5;exact ⟨x::l',H',ι',h1,h2,h3,h4,h5⟩
    ·have hget:(Hr.set id (mk (pre++ .t y::r)))[id]?=some (mk (pre++ .t y::r)):=qw hid;have hj:(pre++V.t y::r)[pre.length]?=some (.t y):=by simp
     obtain ⟨hK1,ι1,g1,s1⟩:=hc _ _ _ _ _ hg hget hK hj hs;rw [vm] at hK1 g1 s1;have e:(pre++V.t y::r).set pre.length (opV Hr.length y)=(pre++ [opV Hr.length y])++r:=by
      rw [ka _ _ (qn _)];simp
     rw [e] at hK1 g1 s1;rw [AlG hid] at g1 s1;obtain ⟨l',H',ι',h1,h2,h3,h4,h5⟩:=ih (by simp;omega) hK1 g1 (Aaa _ _ _ h);simp only [ql,xr,jj] at h3 h4 h5 s1;exact ⟨_,H',ι',h1,h2,h3,h4,s1.trans h5⟩
theorem cells_one {id s:Nat} {v0:V}:Cells F w id (fun l=> .one s (likeV v0 l) false) (Lk v0):=by
 intro ι H l j x hg ho hk hx hs;obtain ⟨c,fpc,L,hp⟩:=AjA hg ho hk hx;obtain ⟨q1,q2⟩:=Aj4 (n:=H.length) hs;refine ⟨hk.set hx q1 q2,?_⟩;have e:l.set j (.t x)=l:=set_same hx;exact Afj hg (mk:=fun u=> .one s (likeV v0 (l.set j u)) false) (by simp only [e];exact ho) hs hp
where
 set_same {l:List V} {j:Nat} {x:V} (h:l[j]?=some x):l.set j x=l:=by
  apply vq;intro k;by_cases e:k=j
  ·subst e;rw [qw (zh.1 h).1,h]
  ·rw [qy (vf e)]
theorem AmU {id s i:Nat} {v0:V} {xs:List T} {r:List (Nat×V)}:Cells F w id (fun l=> .vec s xs ((i,likeV v0 l)::r)) (Lk v0):=by
 intro ι H l j x hg ho hk hx hs;obtain ⟨c,fpc,L,hp⟩:=AjB hg ho hk hx;obtain ⟨q1,q2⟩:=Aj4 (n:=H.length) hs;refine ⟨hk.set hx q1 q2,?_⟩;have e:l.set j (.t x)=l:=cells_one.set_same hx;exact Afj hg (mk:=fun u=> .vec s xs ((i,likeV v0 (l.set j u))::r)) (by simp only [e];exact ho) hs hp
theorem AlT {t j:Nat} {v:V} {k:V→Heap→Q Heap} {R:Heap→Prop} (h:wpQ S (openV cx t j v H k) R):R H∨wpQ S (openCs j (nCells cx t) v.cells H) (fun x=>wpQ S (k (likeV v x.1) x.2) R):=by
 unfold openV at h;split at h
 ·exact .inl h
 ·exact .inr (Apv _ _ _ (fun x hx=>Ado (Aaa _ _ _ hx)) (Aaa _ _ _ h))
theorem AnX (hg:Good ι F w H) {t:Nat} {a:V} {R:Heap→Prop} (h:wpQ S (openAt cx t a H) R): ∃H' ι',R H'∧Good ι' F w H'∧Step ι F H w ι' F H' w:=by
 unfold openAt at h;split at h
 ·rename_i id i j;rw [Aae] at h;split at h
  ·rename_i s v ho;have hid:=(zh.1 ho).1;rcases AlT h with h|h
   ·exact ⟨H,ι,h,hg,.refl ι F H w⟩
   ·obtain ⟨g1,s1⟩:=AhO hg ho;have hn:=(hg.obj id _ ho).1;obtain ⟨l',H',ι',h1,h2,_,h4,h5⟩:=Aj7 (pre:= []) (cells_one (s:=s) (v0:=v)) hid (Lk.self hn) g1 h;obtain ⟨_,h1⟩:=Aap h1;exact ⟨_,ι',h1,h4,s1.trans h5⟩
  ·rename_i s xs ps ho;have hid:=(zh.1 ho).1;obtain ⟨h0,ht,_⟩:=hg.obj id _ ho;obtain ⟨r,h,k1,k2,k3⟩:=Ab7 h ht.1;have key: ∀v,memP ps xs i=some v→wpQ S (openV cx t j v H fun v H=>setH H id (.vec s xs ((i,v)::r))) R→ ∃H' ι',R H'∧Good ι' F w H'∧Step ι F H w ι' F H' w:=by
    intro v hv h;rcases AlT h with h|h
    ·exact ⟨H,ι,h,hg,.refl ι F H w⟩
    ·obtain ⟨g1,s1⟩:=AhP hg ho hv k1 k2 k3;have hn:v≠ .t .any:=by
      obtain ⟨_,_,hob⟩:=hg.obj id _ ho;have hi:=Abv ht hv;rcases hob with ⟨_,hxs,_⟩|⟨b,cs,e,fp,h3',h4,h5,h6,h7,h9,_⟩
      ·rw [hxs] at hi;simp at hi
      ·exact (h9 i v hv).1
     obtain ⟨l',H',ι',h1,h2,_,h4,h5⟩:=Aj7 (pre:= []) (AmU (s:=s) (v0:=v) (xs:=xs) (i:=i) (r:=r)) hid (Lk.self hn) g1 h;obtain ⟨_,h1⟩:=Aap h1;exact ⟨_,ι',h1,h4,s1.trans h5⟩
   split at h
   ·rename_i v hf;exact key v (by unfold memP;rw [hf]) h
   ·rename_i hf;obtain ⟨x,hx,_,h⟩:=h;exact key (.t x) (by unfold memP;rw [hf,hx];rfl) h
  ·exact ⟨H,ι,h,hg,.refl ι F H w⟩
 ·exact ⟨H,ι,h,hg,.refl ι F H w⟩
theorem Al5 (hg:Good ι F w H) {id i:Nat} {ks xs:List T} {ps r:List (Nat×V)} {x:T} (ho:H[id]?=some (.map ks xs ps)) (hv:memP ps xs i=some (.t x)) (hs:x.shut=true) (k1:i∉keysP r) (k2:(keysP r).Sublist (keysP ps)) (k3: ∀j,j≠i→findP j r=findP j ps):
  ∃ι',Good ι' F w ((H++ [opOb x]).set id (.map ks xs ((i,opV H.length x)::r)))∧Step ι F H w ι' F ((H++ [opOb x]).set id (.map ks xs ((i,opV H.length x)::r))) w:=by
 have hid:=(zh.1 ho).1;obtain ⟨g1,s1⟩:=Am8 hg ho hv k1 k2 k3;have hget:(H.set id (.map ks xs ((i,.t x)::r)))[id]?=some (.map ks xs ((i,.t x)::r)):=qw hid;obtain ⟨c,fpc,L,hp⟩:=Aj9 g1 hget;obtain ⟨ι',g2,s2⟩:=Afj g1 hget hs hp;rw [vm,AlG hid] at g2 s2;exact ⟨ι',g2,s1.trans s2⟩
theorem Aja {Rn:List Nat} {id:Nat} {mk:V→Ob} {v:V} {Hr:Heap} {R:V×Heap→Prop} (hid:id<Hr.length) (hg:Good ι F w (Hr.set id (mk v))) (hp: ∃c fpc L,PlaceR ι F w (Hr.set id (mk v)) id mk v c fpc L) (h:wpQ S (closeC Rn id v Hr) R):
  ∃v' H' ι',R (v',H')∧H'.length=Hr.length∧(v'=v∨(v'.cells= [v']∧v'≠ .t .any))∧Good ι' F w (H'.set id (mk v'))∧Step ι F (Hr.set id (mk v)) w ι' F (H'.set id (mk v')) w:=by
 have same:R (v,Hr)→ ∃v' H' ι',R (v',H')∧H'.length=Hr.length∧(v'=v∨(v'.cells= [v']∧v'≠ .t .any))∧Good ι' F w (H'.set id (mk v'))∧Step ι F (Hr.set id (mk v)) w ι' F (H'.set id (mk v')) w:=
  fun h=>⟨v,Hr,ι,h,rfl,.inl rfl,hg,.refl ι F _ w⟩
 have key: ∀ {n:Nat} {ob:Ob} {x:T},v=opV n x→(mem Rn n||qd n id)=false→nth Hr n=some ob→ob.ro=false→x.shut=true→(ob=opOb x∨ ∃s xs sp,x= .row s xs∧ob= .arr s xs sp false)→
   wpQ S ((setH Hr n .dead).bind fun H=> .ret (.t x,H)) R→ ∃v' H' ι',R (v',H')∧H'.length=Hr.length∧(v'=v∨(v'.cells= [v']∧v'≠ .t .any))∧Good ι' F w (H'.set id (mk v'))∧Step ι F (Hr.set id (mk v)) w ι' F (H'.set id (mk v')) w:=by
  intro n ob x hv hm hn hro hs hx hq;subst hv;obtain ⟨_,hq⟩:=Aap (Aaa _ _ _ hq);rw [Aae] at hn;have hne:n≠id:=by
   intro e;subst e;simp at hm
  obtain ⟨c,fpc,L,hp⟩:=hp;obtain ⟨ι',g,st⟩:=Aki hg hne (qw hid) (by rw [qy (vf hne)];exact hn) hro hs hx hp;rw [List.set_comm _ _ (vf hne),y6] at g st;refine ⟨.t x,_,ι',hq,by simp,.inr ?_,g,st⟩;cases x<;>simp [T.shut] at hs<;>exact ⟨rfl,by simp⟩
 unfold closeC at h;split at h
 ·split at h
  ·rename_i hm hn;exact key (x:= .box _ _) rfl hm hn rfl rfl (.inl rfl) h
  ·exact same h
 ·split at h
  ·rename_i hm hn;exact key (x:= .row _ _) rfl hm hn rfl rfl (.inr ⟨_,_,_,rfl,rfl⟩) h
  ·rename_i hm hn;exact key (x:= .vrow _ _) rfl hm hn rfl rfl (.inl rfl) h
  ·exact same h
 ·split at h
  ·rename_i hm hn;exact key (x:= .dict _ _) rfl hm hn rfl rfl (.inl rfl) h
  ·exact same h
 ·obtain ⟨c,fpc,L,p1,p2,p3,p4,p5,p6⟩:=hp;obtain ⟨hv,rfl⟩:=p1.open rfl;cases hv with
  |fit _ _ a ht=>
  obtain ⟨g,st⟩:=Adn hg (o':=mk (.t (.row 1 []))) (qw hid) rfl rfl rfl rfl (fun _ _=>rfl) (p5 ι ι _ _ rfl) (fun _=>(p4 _).trans (p4 _).symm) (fun hl=>p6 ι _ _ [] rfl p2 hl (.t _ _ _ (.row0 _ _ (by omega))) (by simp) rfl);rw [y6] at g st;exact ⟨_,Hr,ι,h,rfl,.inr ⟨rfl,by simp⟩,g,st⟩
 ·rename_i s;obtain ⟨c,fpc,L,p1,p2,p3,p4,p5,p6⟩:=hp;obtain ⟨hv,rfl⟩:=p1.open rfl;cases hv with
  |fit _ _ a ht=>
  obtain ⟨g,st⟩:=Adn hg (o':=mk (.t (.sl (s+2) []))) (qw hid) rfl rfl rfl rfl (fun _ _=>rfl) (p5 ι ι _ _ rfl) (fun _=>(p4 _).trans (p4 _).symm) (fun hl=>p6 ι _ _ [] rfl p2 hl (.t _ _ _ (.tr _ _ (.slN _ _ _))) (by simp) rfl);rw [y6] at g st;exact ⟨_,Hr,ι,h,rfl,.inr ⟨rfl,by simp⟩,g,st⟩
 ·exact same h
def Cells2 (F:Nat→Prop) (w:World) (id:Nat) (mk:List V→Ob) (v0:V):Prop:=
 ∀(ι:Io) (H:Heap) (l:List V) (j:Nat) (x:V),Good ι F w H→H[id]?=some (mk l)→Lk v0 l→l[j]?=some x→ ∃c fpc L,PlaceR ι F w H id (fun u=>mk (l.set j u)) x c fpc L
theorem Ahw {Rn:List Nat} {id:Nat} {mk:List V→Ob} {v0:V} (hc:Cells2 F w id mk v0): ∀ {l pre:List V} {Hr:Heap} {ι:Io} {R:List V×Heap→Prop},id<Hr.length→Lk v0 (pre++l)→Good ι F w (Hr.set id (mk (pre++l)))→wpQ S (closeCs Rn id l Hr) R→
  ∃l' H' ι',R (l',H')∧H'.length=Hr.length∧Lk v0 (pre++l')∧Good ι' F w (H'.set id (mk (pre++l')))∧Step ι F (Hr.set id (mk (pre++l))) w ι' F (H'.set id (mk (pre++l'))) w:=by
 intro l;induction l with
 |nil=>
  intro pre Hr ι R hid hK hg h;exact ⟨[],Hr,ι,h,rfl,hK,hg,.refl ι F _ w⟩
 |cons x r ih=>
  intro pre Hr ι R hid hK hg h;have app: ∀(y:V) (l:List V),pre++y::l=(pre++ [y])++l:=by simp
  have hj:(pre++x::r)[pre.length]?=some x:=by simp
  have e: ∀u,(pre++x::r).set pre.length u=pre++u::r:=by
   intro u;rw [ka _ _ (qn _)];simp
  have hp:=hc _ _ _ _ _ hg (qw hid) hK hj;simp only [e] at hp;obtain ⟨x',H1,ι1,h1,h2,h3,h4,h5⟩:=Aja (mk:=fun u=>mk (pre++u::r)) hid hg hp (Aaa _ _ _ h);have hK1:Lk v0 (pre++x'::r):=by
   rcases h3 with rfl|⟨h3,h6⟩
   ·exact hK
   ·have:=hK.set hj h3 h6
    rwa [e] at this
  rw [app] at hK1 h4 h5;obtain ⟨l',H',ι',q1,q2,q3,q4,q5⟩:=ih (by omega) hK1 h4 (Aaa _ _ _ h1);simp only [ql,xr,jj] at q3 q4 q5 h5;exact ⟨x'::l',H',ι',q1,q2.trans h2,q3,q4,h5.trans q5⟩
theorem Amc {id s:Nat} {v0:V}:Cells2 F w id (fun l=> .one s (likeV v0 l) false) v0:=fun _ _ _ _ _ hg ho hk hx=>AjA hg ho hk hx
theorem Amd {id s i:Nat} {v0:V} {xs:List T} {r:List (Nat×V)}:Cells2 F w id (fun l=> .vec s xs ((i,likeV v0 l)::r)) v0:=fun _ _ _ _ _ hg ho hk hx=>AjB hg ho hk hx
theorem Amg {Rn:List Nat} {id s:Nat}: ∀ {ps pre:List (Nat×V)} {xs:List T} {Hr:Heap} {ι:Io} {R:List (Nat×V)×List T×Heap→Prop},id<Hr.length→Good ι F w (Hr.set id (.vec s xs (ps++pre)))→wpQ S (closePs Rn id ps xs Hr) R→
  ∃ps' xs' H' ι',R (ps',xs',H')∧H'.length=Hr.length∧Good ι' F w (H'.set id (.vec s xs' (ps'++pre)))∧Step ι F (Hr.set id (.vec s xs (ps++pre))) w ι' F (H'.set id (.vec s xs' (ps'++pre))) w:=by
 intro ps;induction ps with
 |nil=>intro pre xs Hr ι R hid hg h;exact ⟨_,_,Hr,ι,h,rfl,hg,.refl ι F _ w⟩
 |cons p r ih=>
  obtain ⟨i,v⟩:=p;intro pre xs Hr ι R hid hg h;have hget:(Hr.set id (.vec s xs ((i,v)::(r++pre))))[id]?=some (.vec s xs ((i,v)::(r++pre))):=qw hid;have ht:=(hg.obj id _ hget).2.1;have hn:i∉keysP (r++pre):=by have:=ht.1;simp only [keysP,qo,vw] at this;exact this.1
  have hv:memP ((i,v)::(r++pre)) xs i=some v:=AaB;have hi:i<xs.length:=Abv ht hv;have hne:v≠ .t .any:=by
   obtain ⟨_,_,hob⟩:=hg.obj id _ hget;rcases hob with ⟨_,hxs,_⟩|⟨b,cs,e,fp,h3',h4,h5,h6,h7,h9,_⟩
   ·rw [hxs] at hi;simp at hi
   ·exact (h9 i v hv).1
  obtain ⟨g0,s0⟩:=AhP hg hget hv hn (by simp [keysP]) (fun j hj=>by simp [findP,hj]);rw [y6] at g0 s0;obtain ⟨l',H1,ι1,h1,h2,_,h4,h5⟩:=Ahw (pre:= []) (Amd (s:=s) (v0:=v) (xs:=xs) (i:=i) (r:=r++pre)) hid (Lk.self hne) g0 (Aaa _ _ _ h);simp only [jj] at h4 h5;replace h1:=Ado (Aaa _ _ _ h1);generalize likeV v l'=v' at h1 h4 h5;have hget1:(H1.set id (.vec s xs ((i,v')::(r++pre))))[id]?=some (.vec s xs ((i,v')::(r++pre))):=qw (by omega);obtain ⟨g1,s1⟩:=AlP h4 hget1 (ps':=r++((i,v')::pre)) (by rw [←xr];exact List.perm_middle.symm);rw [y6] at g1 s1;obtain ⟨ps',xs',H2,ι2,q1,q2,q3,q4⟩:=ih (by omega) g1 (Aaa _ _ _ h1);have hget2:(H2.set id (.vec s xs' (ps'++(i,v')::pre)))[id]?=some (.vec s xs' (ps'++(i,v')::pre)):=qw (by omega);obtain ⟨g3,s3⟩:=AlP q3 hget2 (ps':=(i,v')::(ps'++pre)) List.perm_middle;rw [y6] at g3 s3;have st:=s0.trans (h5.trans (s1.trans (q4.trans s3)));dsimp only at q1;split at q1
  ·rename_i x;have hget3:(H2.set id (.vec s xs' ((i,.t x)::(ps'++pre))))[id]?=some (.vec s xs' ((i,.t x)::(ps'++pre))):=qw (by omega);obtain ⟨g4,s4⟩:=AeM g3 hget3;rw [y6] at g4 s4;exact ⟨_,_,H2,ι2,q1,by omega,g4,st.trans s4⟩
  ·exact ⟨_,_,H2,ι2,q1,by omega,g3,st⟩
theorem Amf {Rn:List Nat} {id:Nat} {ks:List T}: ∀ {ps pre:List (Nat×V)} {xs:List T} {Hr:Heap} {ι:Io} {R:List (Nat×V)×List T×Heap→Prop},id<Hr.length→Good ι F w (Hr.set id (.map ks xs (ps++pre)))→wpQ S (closePm Rn id ps xs Hr) R→
  ∃ps' xs' H' ι',R (ps',xs',H')∧H'.length=Hr.length∧Good ι' F w (H'.set id (.map ks xs' (ps'++pre)))∧Step ι F (Hr.set id (.map ks xs (ps++pre))) w ι' F (H'.set id (.map ks xs' (ps'++pre))) w:=by
 intro ps;induction ps with
 |nil=>intro pre xs Hr ι R hid hg h;exact ⟨_,_,Hr,ι,h,rfl,hg,.refl ι F _ w⟩
 |cons p r ih=>
  obtain ⟨i,v⟩:=p;intro pre xs Hr ι R hid hg h;have hget:(Hr.set id (.map ks xs ((i,v)::(r++pre))))[id]?=some (.map ks xs ((i,v)::(r++pre))):=qw hid;obtain ⟨v',H1,ι1,h1,h2,hx3,h4,h5⟩:=Aja (mk:=fun u=> .map ks xs ((i,u)::(r++pre))) hid hg (Aj9 hg hget) (Aaa _ _ _ h);have hget1:(H1.set id (.map ks xs ((i,v')::(r++pre))))[id]?=some (.map ks xs ((i,v')::(r++pre))):=qw (by omega);obtain ⟨g1,s1⟩:=AlO h4 hget1 (ps':=r++((i,v')::pre)) (by rw [←xr];exact List.perm_middle.symm);rw [y6] at g1 s1;obtain ⟨ps',xs',H2,ι2,q1,q2,q3,q4⟩:=ih (by omega) g1 (Aaa _ _ _ h1);have hget2:(H2.set id (.map ks xs' (ps'++(i,v')::pre)))[id]?=some (.map ks xs' (ps'++(i,v')::pre)):=qw (by omega);obtain ⟨g3,s3⟩:=AlO q3 hget2 (ps':=(i,v')::(ps'++pre)) List.perm_middle;rw [y6] at g3 s3;have st:=h5.trans (s1.trans (q4.trans s3));dsimp only at q1;clear hx3;split at q1
  ·rename_i x;have hget3:(H2.set id (.map ks xs' ((i,.t x)::(ps'++pre))))[id]?=some (.map ks xs' ((i,.t x)::(ps'++pre))):=qw (by omega);obtain ⟨g4,s4⟩:=AiF g3 hget3;rw [y6] at g4 s4;exact ⟨_,_,H2,ι2,q1,by omega,g4,st.trans s4⟩
  ·exact ⟨_,_,H2,ι2,q1,by omega,g3,st⟩
theorem set_same {id:Nat} {o:Ob} (ho:H[id]?=some o):H.set id o=H:=by
 apply vq;intro k;by_cases e:k=id
 ·subst e;rw [qw (zh.1 ho).1,ho]
 ·rw [qy (vf e)]
theorem Ame {Rn:List Nat} {id:Nat} {o:Ob} {R:Heap→Prop} (hg:Good ι F w H) (ho:H[id]?=some o) (h:wpQ S (closeOb Rn id o H) R): ∃H' ι',R H'∧H'.length=H.length∧Good ι' F w H'∧Step ι F H w ι' F H' w:=by
 have hid:=(zh.1 ho).1;unfold closeOb at h;split at h
 ·rename_i s v;split at h
  ·obtain ⟨g0,s0⟩:=AhO hg ho;obtain ⟨l',H1,ι1,h1,h2,_,h4,h5⟩:=Ahw (pre:= []) (Amc (s:=s) (v0:=v)) hid (Lk.self (hg.obj id _ ho).1) g0 (Aaa _ _ _ h);replace h1:=Ado (Aaa _ _ _ h1);obtain ⟨_,h1⟩:=Aap h1;exact ⟨_,ι1,h1,by simpa using h2,h4,s0.trans h5⟩
  ·exact ⟨H,ι,h,rfl,hg,.refl ι F H w⟩
 ·rename_i s xs p ps;rw [←set_same ho] at hg;obtain ⟨ps',xs',H1,ι1,h1,h2,h4,h5⟩:=Amg (pre:= []) hid (by simpa using hg) (Aaa _ _ _ h);simp only [List.append_nil] at h4 h5;rw [set_same ho] at h5;obtain ⟨_,h1⟩:=Aap h1;exact ⟨_,ι1,h1,by simpa using h2,h4,h5⟩
 ·rename_i ks xs p ps;rw [←set_same ho] at hg;obtain ⟨ps',xs',H1,ι1,h1,h2,h4,h5⟩:=Amf (pre:= []) hid (by simpa using hg) (Aaa _ _ _ h);simp only [List.append_nil] at h4 h5;rw [set_same ho] at h5;obtain ⟨_,h1⟩:=Aap h1;exact ⟨_,ι1,h1,by simpa using h2,h4,h5⟩
 ·exact ⟨H,ι,h,rfl,hg,.refl ι F H w⟩
theorem Akh {Rn An:List Nat}: ∀ {n:Nat} {H:Heap} {ι:Io} {R:Heap→Prop},Good ι F w H→wpQ S (closeAll Rn An n H) R→ ∃H' ι',R H'∧Good ι' F w H'∧Step ι F H w ι' F H' w:=by
 intro n;induction n with
 |zero=>intro H ι R hg h;exact ⟨H,ι,h,hg,.refl ι F H w⟩
 |succ n ih=>
  intro H ι R hg h;unfold closeAll at h;rw [Aae] at h;replace h:=Aaa _ _ _ h;split at h
  ·rename_i o _ ho;obtain ⟨H1,ι1,h1,_,g1,s1⟩:=Ame hg ho h;obtain ⟨H2,ι2,h2,g2,s2⟩:=ih g1 h1;exact ⟨H2,ι2,h2,g2,s1.trans s2⟩
  ·exact ih hg h
theorem AmW {Rn:List Nat}: ∀ {n:Nat} {H:Heap} {ι:Io} {R:Heap→Prop},Good ι F w H→wpQ S (closeN Rn n H) R→ ∃H' ι',R H'∧Good ι' F w H'∧Step ι F H w ι' F H' w:=by
 intro n;induction n with
 |zero=>intro H ι R hg h;exact ⟨H,ι,h,hg,.refl ι F H w⟩
 |succ n ih=>
  intro H ι R hg h;obtain ⟨H1,ι1,h1,g1,s1⟩:=Akh hg (Aaa _ _ _ (AaQ (Aaa _ _ _ h)));obtain ⟨H2,ι2,h2,g2,s2⟩:=ih g1 h1;exact ⟨H2,ι2,h2,g2,s1.trans s2⟩
theorem Ae8 {b:Bool} {keep:Nat} {vs:List V} {R:Heap→Prop} (hg:Good ι F w H) (h:wpQ S (foldR b keep vs H) R): ∃H' ι',R H'∧Good ι' F w H'∧Step ι F H w ι' F H' w:=by
 unfold foldR at h;split at h
 ·exact AmW hg (AaQ (Aaa _ _ _ h))
 ·exact ⟨H,ι,h,hg,.refl ι F H w⟩
theorem AoL {ks:Option (List V)} {args:List V} {R:Heap→Prop} (hg:Good ι F w H) (h:wpQ S (foldC ks args H) R): ∃H' ι',R H'∧Good ι' F w H'∧Step ι F H w ι' F H' w:=by
 unfold foldC at h;split at h
 ·exact Ae8 hg h
 ·exact ⟨H,ι,h,hg,.refl ι F H w⟩
end
section
variable {P:Program} {cx:Cx} {S:Task→(Res→Prop)→Prop} {w:World} {ι:Io} {F:Nat→Prop} {H:Heap} {o:Oper} {e:Env} {a:Act} {R:V×Heap→Prop} {Q:Exit→Act→World→Prop}
theorem AnU (hc:CxTy P cx) (hg:Good ι F w H) (hs:Sim ι F w H e a) (t:Nat) (x:Operand) (ho:o.op= .load t x) (ht: ∃i,cx.ti.get t=some i) (h:wpQ S (opQ cx o e H) R):
  Still (OldSame w) P R o ι F H w a:=by
 unfold opQ at h;rw [ho] at h;simp only at h;obtain ⟨i,hi⟩:=ht;obtain ⟨H1,ι1,h,g1,s1⟩:=AnX hg (Aaa _ _ _ h);obtain ⟨v,u,h1,h2,h3,_⟩:=Ajt hc g1 hi (Aaa _ _ _ h) (s1.vr hg (Aaj hs x));refine ⟨v,H1,ι1,F,u,h1,g1,s1,h2,fun w' hw'=> ?_⟩;simp [execOp,ho,h3 w' hw']
end
end Go.Eva
namespace Go.Eva
open Go.RowKit
section
variable {P:Program} {cx:Cx} {S:Task→(Res→Prop)→Prop} {w:World} {ι:Io} {F:Nat→Prop} {H:Heap}
theorem AhV {b off sz:Nat} {xs:List T} {c:Nat→Nat→Value} {n:Nat} {cap:Nat} (hF:F b)
  (h1: ∀i j,i<xs.length→j<sz→w.cell? ⟨b,i*sz+j,none⟩=some (c i j)∧(c i j).oneCell'=true) (h2: ∀(i:Nat) x,xs[i]?=some x→x≠ .any→x.cells.length=sz)
  (h3: ∀(i j:Nat) x t,xs[i]?=some x→x≠ .any→x.cells[j]?=some t→TR F w t (c i j)) (hn:n=((xs.drop off).take n).length) (hcap:n≤cap) (h0:n≠0):
  TR F w (.sl sz ((xs.drop off).take n)) (.slice (some ⟨b,off*sz,none⟩) n cap):=by
 have hle:n+off≤xs.length:=by simp at hn;omega
 have:=TR.slC (F:=F) (w:=w) sz ((xs.drop off).take n) b (off*sz) cap (fun i j=>c (off+i) j) (by intro e;rw [e] at hn;simp at hn;exact h0 hn) (by rw [←hn];exact hcap) hF ?_ ?_ ?_
 ·rw [←hn] at this;exact this
 ·intro i j hi hj;rw [←hn] at hi;have:=h1 (off+i) j (by omega) hj;rw [jc] at this;simpa [wr] using this
 ·intro i x hx hne;rw [ji] at hx;split at hx
  ·rw [xh] at hx;exact h2 _ x hx hne
  ·contradiction
 ·intro i j x t hx hne ht;rw [ji] at hx;split at hx
  ·rw [xh] at hx;exact h3 _ j x t hx hne ht
  ·contradiction
theorem fl_of {l:List Nat} {id:Nat} {o:Ob} {b:Nat} (hm:mem l id=true) (ho:H[id]?=some o) (hd:o.isDead=false) (hb:ι id=some b):F b∨Fl ι H l b:=
 .inr ⟨id,o,mem_iff.1 hm,ho,hd,hb⟩
theorem AnT {c:Value} (hc:c.oneCell'=true):c.cells= #[c]:=by cases c<;>simp_all [ur,v6]
theorem AkE {v:V} {cs:Array Value} (hn:v≠ .t .any) (hs:v.cells.length=cs.size) (h1: ∀(i:Nat) c,cs[i]?=some c→c.oneCell'=true) (hc: ∀(j:Nat) x c,v.cells[j]?=some x→cs[j]?=some c→VR ι F w H x c):
  ∃val:Value,val.cells=cs∧VR ι F w H v val:=by
 have one:v.cells= [v]→ ∃val:Value,val.cells=cs∧VR ι F w H v val:=by
  intro h;rw [h] at hs;have h0:cs[0]?=some (cs[0]'(by simp at hs;omega)):=by simp
  refine ⟨cs[0]'(by simp at hs;omega),?_,hc 0 v _ (by rw [h];rfl) h0⟩;rw [AnT (h1 0 _ h0)];apply Array.ext
  ·simpa using hs
  ·intro i hi hi';simp at hi;subst hi;rfl
 cases v with
 |t y=>
  cases y with
  |agg ts=>exact ⟨.agg cs,rfl,.t _ _ (.agg _ _ (by simpa [V.cells] using hs) h1 fun i x c hx hcc=>(hc i (.t x) c (by simp [V.cells,hx]) hcc).t_inv)⟩
  |any=>exact absurd rfl hn
  |_=>exact one rfl
 |agg vs=>exact ⟨.agg cs,rfl,.agg _ _ hs h1 hc⟩
 |_=>exact one rfl
theorem fz_ok (hg:Good ι F w H) (l:List Nat): ∀(n:Nat),(∀(v:V) (x:T) (u:Value),fz l H n v=some x→VR ι F w H v u→TR (fun b=>F b∨Fl ι H l b) w x u∧(v≠ .t .any→x≠ .any))∧
  (∀(vs:List V) (xs:List T),fzs l H n vs=some xs→xs.length=vs.length∧ ∀(i:Nat) v x u,vs[i]?=some v→xs[i]?=some x→VR ι F w H v u→TR (fun b=>F b∨Fl ι H l b) w x u):=by
 have up: ∀ {x:T} {u:Value},TR F w x u→TR (fun b=>F b∨Fl ι H l b) w x u:=fun h=>h.mono (fun _ h=> .inl h) (fun _ _=>rfl);intro n;induction n with
 |zero=>exact ⟨fun v x u h=>by simp [fz] at h,fun vs xs h=>by simp [fzs] at h⟩
 |succ n ih=>
  obtain ⟨ih1,ih2⟩:=ih;refine ⟨?_,?_⟩
  ·intro v x u h hv;cases v with
   |t y=>simp [fz] at h;subst h;exact ⟨up hv.t_inv,fun hn e=>hn (by rw [e])⟩
   |nil=>simp [fz] at h
   |fit s xs=>simp [fz] at h;subst h;cases hv with|fit _ _ a h=>exact ⟨up h,fun _=>by simp⟩
   |tup vs=>simp [fz] at h
   |also u0 y=>simp [fz] at h
   |all id lim=>
    simp only [fz,Aae] at h;split at h
    ·rename_i s xs sp ro hm ho;simp at h;subst h;refine ⟨?_,fun _=>by simp⟩;cases hv with
     |all _ _ _ hs=>
     unfold OwnSl at hs;rw [ho] at hs;obtain ⟨a,cap,rfl,hcap,hoff,hcase⟩:=hs;simp only [wc] at*;obtain ⟨h0,_,hblk⟩:=hg.obj id _ ho;rcases hblk with ⟨hi,rfl,_⟩|⟨b,cs,e,hi,hh,h3,h4,h5,h6,c,g1,g2,g3⟩
     ·exact .slN _ _ _
     ·rw [hi] at hcase;by_cases hx:xs.length=0
      ·have:xs= []:=by cases xs with|nil=>rfl|cons _ _=>simp at hx
       subst this;exact .slN _ _ _
      ·have ha:a=some ⟨b,0*s,none⟩:=hcase.1.resolve_left (by omega);subst ha;have:=AhV (F:=fun b=>F b∨Fl ι H l b) (w:=w) (off:=0) (n:=xs.length) (cap:=cap) (fl_of hm ho rfl hi) g1 g2 (fun i j x t hx hne ht=>up (g3 i j x t hx hne ht)) (by simp) hcap hx;simpa using this
    ·contradiction
   |sl id off len lim=>
    simp only [fz,Aae] at h;split at h
    ·rename_i s xs sp ro hm ho;simp at h;subst h;refine ⟨?_,fun _=>by simp⟩;cases hv with
     |sl _ _ _ _ _ hs=>
     unfold OwnSl at hs;rw [ho] at hs;obtain ⟨a,cap,rfl,hcap,hoff,hcase⟩:=hs;simp only [Option.getD_some] at*;obtain ⟨h0,_,hblk⟩:=hg.obj id _ ho;have hlen:((xs.drop off).take len).length=len:=by simp;omega
     by_cases hx:len=0
     ·subst hx;simp only [List.take_zero];exact .slN _ _ _
     ·rcases hblk with ⟨hi,rfl,_⟩|⟨b,cs,e,hi,hh,h3,h4,h5,h6,c,g1,g2,g3⟩
      ·simp at hoff;omega
      ·rw [hi] at hcase;have ha:a=some ⟨b,off*s,none⟩:=hcase.1.resolve_left (by omega);subst ha;exact AhV (F:=fun b=>F b∨Fl ι H l b) (w:=w) (off:=off) (n:=len) (cap:=cap) (fl_of hm ho rfl hi) g1 g2 (fun i j x t hx hne ht=>up (g3 i j x t hx hne ht)) hlen.symm hcap hx
    ·contradiction
   |ptr id i j=>
    simp only [fz,Aae] at h;split at h
    ·rename_i s v ro hm ho;split at h
     case h_2=>contradiction
     rename_i hns;split at h
     ·rename_i y hy;simp at h;subst h;refine ⟨?_,fun _=>by simp⟩;cases hv with
      |ptr _ _ _ _ hp=>
      unfold OwnPtr at hp;rw [ho] at hp;obtain ⟨b,hb,rfl⟩:=hp;obtain ⟨h1,h2,_,b',cs,e,fp,h3,h4,h6,h7,h5,_⟩:=hg.obj id _ ho;rw [hb] at h3;obtain rfl:=ze h3;obtain ⟨val,rfl,hvv⟩:=AkE h1 (by rw [h6,←h2];rfl) h7 (fun j x c hx hc=>((h5 j x c hx hc).open (Ab8 hns j x hx)).1);obtain ⟨ht,hne⟩:=ih1 v y val hy hvv;have hne:=hne h1;obtain ⟨k1,k2⟩:=ht.cells hne;have:=TR.ip (F:=fun b=>F b∨Fl ι H l b) (w:=w) s y j b 0 (fun j=>val.cells.getD j undef) (fl_of hm ho rfl hb) hne ?_ (by rw [k1,h6]) ?_
      ·simpa using this
      ·intro j hj;have hj':j<val.cells.size:=by omega
       have hget:val.cells[j]?=some val.cells[j]:=by simp
       refine ⟨?_,?_⟩
       ·rw [cell_of_row w b _ _ e _ h4];simp [hj']
       ·have:=h7 j _ hget;simpa [hj'] using this
      ·intro j t ht';have hj:j<val.cells.size:=by rw [←k1];exact (zh.1 ht').1
       have hget:val.cells[j]?=some val.cells[j]:=by simp
       have:=k2 j t _ ht' hget;simpa [hj] using this
     ·contradiction
    ·contradiction
   |clo f cs=>
    simp only [fz] at h;split at h
    ·rename_i l' hl;simp at h;subst h;refine ⟨?_,fun _=>by simp⟩;obtain ⟨k1,k2⟩:=ih2 cs l' hl;cases hv with
     |clo _ _ vs hn hc=>
      refine .clo f l' vs (k1.trans hn) ?_;intro i x v hx hv;have hlt:i<cs.length:=by rw [←k1];exact (zh.1 hx).1
      exact k2 i _ x v (zt hlt) hx (hc i _ v (zt hlt) hv)
    ·contradiction
   |agg cs=>
    simp only [fz] at h;split at h
    ·rename_i l' hl;simp at h;subst h;refine ⟨?_,fun _=>by simp⟩;obtain ⟨k1,k2⟩:=ih2 cs l' hl;cases hv with
     |agg _ vs hn h1 hc=>
      refine .agg l' vs (k1.trans hn) h1 ?_;intro i x v hx hv;have hlt:i<cs.length:=by rw [←k1];exact (zh.1 hx).1
      exact k2 i _ x v (zt hlt) hx (hc i _ v (zt hlt) hv)
    ·contradiction
   |map id=>simp [fz] at h
  ·intro vs xs h;cases vs with
   |nil=>simp [fzs] at h;subst h;exact ⟨rfl,by simp⟩
   |cons v r=>
    simp only [fzs] at h;split at h
    ·rename_i x l' hx hl;simp at h;subst h;obtain ⟨k1,k2⟩:=ih2 r l' hl;refine ⟨by simp [k1],?_⟩;intro i y z u hy hz hu;cases i with
     |zero=>simp at hy hz;subst hy;subst hz;exact (ih1 v _ u hx hu).1
     |succ i=>simp at hy hz;exact k2 i y z u hy hz hu
    ·contradiction
mutual
theorem pinT_ok: ∀ {v:V} {x:T} {u:Value},pinT v=some x→VR ι F w H v u→TR F w x u∧(v≠ .t .any→x≠ .any)
 | .t y,x,u,h,hv=>by simp [pinT] at h;subst h;cases hv with|t _ _ h=>exact ⟨h,fun h e=>h (by rw [e])⟩
 | .fit s [],x,u,h,hv=>by simp [pinT] at h;subst h;cases hv with|fit _ _ a _=>exact ⟨.nul a,fun _=>by simp⟩
 | .agg vs,x,u,h,hv=>by
  unfold pinT at h;split at h
  ·rename_i l hl;simp at h;subst h;cases hv with
   |agg _ cs hn h1 hc=>
    obtain ⟨k1,k2⟩:=pinTs_ok hl;exact ⟨.agg _ _ (by omega) h1 fun i y c hy hcc=>by
     have hi:i<vs.length:=by have:=(zh.1 hy).1;omega
     exact k2 i _ y c (zt hi) hy (hc i _ c (zt hi) hcc),fun _=>by simp⟩
  ·contradiction
 | .nil,_,_,h,_=>by simp [pinT] at h
 | .fit _ (_::_),_,_,h,_=>by simp [pinT] at h
 | .all _ _,_,_,h,_=>by simp [pinT] at h
 | .sl _ _ _ _,_,_,h,_=>by simp [pinT] at h
 | .ptr _ _ _,_,_,h,_=>by simp [pinT] at h
 | .clo _ _,_,_,h,_=>by simp [pinT] at h
 | .tup _,_,_,h,_=>by simp [pinT] at h
 | .map _,_,_,h,_=>by simp [pinT] at h
theorem pinTs_ok: ∀ {vs:List V} {l:List T},pinTs vs=some l→l.length=vs.length∧ ∀(i:Nat) v x u,vs[i]?=some v→l[i]?=some x→VR ι F w H v u→TR F w x u
 | [],l,h=>by simp [pinTs] at h;subst h;simp
 |v::vs,l,h=>by
  unfold pinTs at h;split at h
  ·rename_i x l' hx hl;simp at h;subst h;obtain ⟨k1,k2⟩:=pinTs_ok hl;refine ⟨by simp [k1],fun i v' y u hv hy hvr=> ?_⟩;cases i with
   |zero=>simp at hv hy;subst hv hy;exact (pinT_ok hx hvr).1
   |succ i=>simp at hv hy;exact k2 i v' y u hv hy hvr
  ·contradiction
end
theorem Aia (hg:Good ι F w H) {v:V} {u:Value} {R:T×Heap→Prop} (h:wpQ S (toT v H) R) (hv:VR ι F w H v u):
  ∃x H' F',R (x,H')∧Good ι F' w H'∧Step ι F H w ι F' H' w∧TR F' w x u∧(v≠ .t .any→x≠ .any):=by
 have gen:wpQ S ((forceN (reach H 200 v.ids [])).bind fun l=>match fz l H depth v with
  |some x=> .norm x fun x=> .ret (x,roAll 0 l H)
  |none=> .fail) R→ ∃x H' F',R (x,H')∧Good ι F' w H'∧Step ι F H w ι F' H' w∧TR F' w x u∧(v≠ .t .any→x≠ .any):=by
  intro h;have h1:=AaQ (Aaa _ _ _ h);generalize reach H 200 v.ids []=l at h1;cases hf:fz l H depth v with
  |none=>rw [hf] at h1;exact h1.elim
  |some x=>
   rw [hf] at h1;obtain ⟨k1,k2⟩:=(fz_ok hg l depth).1 v x u hf hv;obtain ⟨g1,g2⟩:=AlF hg l;exact ⟨x,_,_,h1,g1,g2,k1,k2⟩
 cases v with
 |t x=>exact ⟨x,H,F,h,hg,.refl ι F H w,hv.t_inv,fun hn e=>hn (by rw [e])⟩
 |fit s xs=>cases hv with|fit _ _ a hv=>exact ⟨_,H,F,h,hg,.refl ι F H w,hv,fun _=>by simp⟩
 |_=>exact gen h
theorem zT_ok (hg:Good ι F w H) {b:Bool} {v:V} {u:Value} {R:T×Heap→Prop} (h:wpQ S (zT b v H) R) (hv:VR ι F w H v u):
  ∃x H' F',R (x,H')∧Good ι F' w H'∧Step ι F H w ι F' H' w∧TR F' w x u∧(v≠ .t .any→x≠ .any):=by
 unfold zT at h;split at h
 ·split at h
  ·rename_i x hx;obtain ⟨k1,k2⟩:=pinT_ok hx hv;exact ⟨x,H,F,h,hg,.refl ι F H w,k1,k2⟩
  ·exact h.elim
 ·exact Aia hg h hv
theorem VR.shape {v:V} {u:Value} (h:VR ι F w H v u) (hv:v≠ .t .any) (ha:alive H v=true):v.cells.length=u.cells.size∧ ∀(i:Nat) c,u.cells[i]?=some c→c.oneCell'=true:=by
 have one: ∀ {c:Value},c.oneCell'=true→c.cells= #[c]:=by intro c hc;cases c<;>simp_all [ur,v6]
 have fin: ∀ {c:Value},c.oneCell'=true→(1=c.cells.size∧ ∀(i:Nat) d,c.cells[i]?=some d→d.oneCell'=true):=by
  intro c hc;rw [one hc];refine ⟨rfl,fun i d hd=> ?_⟩;cases i<;>simp at hd;subst hd;exact hc
 have thr: ∀ {id},there H id=true→(∃s v ro,H[id]?=some (.one s v ro))∨(∃s xs sp ro,H[id]?=some (.arr s xs sp ro))∨ ∃s xs ps,H[id]?=some (.vec s xs ps):=by
  intro id ht;unfold there at ht;simp only [Aae] at ht;split at ht
  ·rename_i s v ro h;exact .inl ⟨s,v,ro,h⟩
  ·rename_i s xs sp ro h;exact .inr (.inl ⟨s,xs,sp,ro,h⟩)
  ·rename_i s xs ps h;exact .inr (.inr ⟨s,xs,ps,h⟩)
  ·contradiction
 have sl: ∀ {id off:Nat} {n lim:Option Nat},there H id=true→OwnSl ι w H id off n lim u→u.oneCell'=true:=by
  intro id off n lim ht hs;unfold OwnSl at hs;rcases thr ht with ⟨s,v,ro,h⟩|⟨s,xs,sp,ro,h⟩|⟨s,xs,ps,h⟩
  ·rw [h] at hs;exact hs.elim
  ·rw [h] at hs;obtain ⟨a,cap,rfl,_⟩:=hs;rfl
  ·rw [h] at hs;obtain ⟨a,cap,rfl,_⟩:=hs;rfl
 cases h with
 |t x v h=>
  have hx:x≠ .any:=fun e=>hv (by rw [e]);rw [V.cells_t];refine ⟨by simpa using (h.cells hx).1,?_⟩;cases h with
  |any=>exact absurd rfl hx
  |agg vs cs hl h1 hc=>exact h1
  |pin v h=>exact (fin h).2
  |_=>exact (fin rfl).2
 |nil=>exact fin rfl
 |fit sz xs a h=>exact fin rfl
 |all id lim v h=>exact fin (sl ha h)
 |also u0 y h1 h=>exact fin h1
 |sl id off len lim v h=>exact fin (sl ha h)
 |ptr id i j v h=>
  refine fin ?_;unfold OwnPtr at h;rcases thr ha with ⟨s,v,ro,h'⟩|⟨s,xs,sp,ro,h'⟩|⟨s,xs,ps,h'⟩
  ·rw [h'] at h;obtain ⟨b,_,rfl⟩:=h;rfl
  ·rw [h'] at h;obtain ⟨_,b,_,rfl⟩:=h;rfl
  ·rw [h'] at h;obtain ⟨_,b,_,rfl⟩:=h;rfl
 |clo f cs vs hl hc=>exact fin rfl
 |agg vs cs hl h1 hc=>exact ⟨hl,h1⟩
 |tup vs cs hl hc=>simp [alive] at ha
 |map id v h=>
  refine fin ?_;unfold OwnMap at h;simp only [alive,thereM,Aae] at ha;split at ha
  ·rename_i h';rw [h'] at h;obtain ⟨b,_,rfl⟩:=h;rfl
  ·contradiction
theorem Ad1 (cur:Array Value) (o:Nat) (vs:List Value) (h:o+vs.length≤cur.size) (i:Nat):
  ((cur.toList.take o++vs++cur.toList.drop (o+vs.length)).toArray)[i]?=if o≤i∧i<o+vs.length then vs[i-o]? else cur[i]?:=by
 rw [ym,ql,p9];have hl:(cur.toList.take o).length=o:=by simp;omega
 rw [hl];by_cases h1:i<o
 ·rw [if_pos h1,if_neg (by omega),uh h1];simp
 ·rw [if_neg h1,p9];by_cases h2:i-o<vs.length
  ·rw [if_pos h2,if_pos (by omega)]
  ·rw [if_neg h2,if_neg (by omega),xh];have:o+vs.length+(i-o-vs.length)=i:=by omega
   rw [this];simp
theorem Ac4 (cur:Array Value) (o:Nat) (vs:List Value) (h:o+vs.length≤cur.size):((cur.toList.take o++vs++cur.toList.drop (o+vs.length)).toArray).size=cur.size:=by
 simp;omega
theorem Ac1 (hc:CxTy P cx) {t:Nat} {i:TI} (hi:cx.ti.get t=some i) {b o:Nat} {u:Value} {cur:Array Value} {e:TypeId} (hb:w.heap[b]?=some (.cells cur e (0,0)))
  (hsz:u.cells.size=sizeOf cx t) (hfit:o+u.cells.size≤cur.size) (h1: ∀(i:Nat) c,u.cells[i]?=some c→c.oneCell'=true):
  (Instr.storeAt t (.pointer (some ⟨b,o,none⟩)) u).run P w= .ok () (w.setRow b (cur.toList.take o++u.cells.toList++cur.toList.drop (o+u.cells.toList.length)).toArray):=by
 have hst:=run_storeCells_at P b o e u.cells.toList 0 cur w hb (by simpa using hfit) (by
  intro v hv;obtain ⟨i,hi,rfl⟩:=xn hv;exact h1 i _ (by simp at hi⊢))
 simp only [Nat.add_zero] at hst;simp only [Instr.storeAt,ma,storeVar,xy,ve,j4,Aa8 hc hi,hsz,ne_eq,not_true_eq_false,if_false];exact hst
end
end Go.Eva
namespace Go.Eva
open Go.RowKit
section
variable {P:Program} {cx:Cx} {S:Task→(Res→Prop)→Prop} {w:World} {ι:Io} {F:Nat→Prop} {H:Heap}
theorem VR.single {x:V} {c:Value} (h:VR ι F w H x c) (hc:c.oneCell'=true):x.cells= [x]:=by
 cases h with
 |t x v h=>cases h<;>first|rfl|(simp [ur] at hc)
 |agg=>simp [ur] at hc
 |_=>rfl
theorem HC.single {x:V} {c:Value} {fp:List Nat} (h:HC ι F w H x c fp) (hc:c.oneCell'=true):x.cells= [x]:=by
 cases h with
 |v _ _ h=>exact h.single hc
 |t _ _ _ h=>cases h<;>first|rfl|(rename_i h;exact (VR.t (ι:=ι) (H:=H) _ _ h).single hc)
theorem Aof {cx:Cx} {t s j:Nat} {old v:V} {R:V→Prop} (h:wpQ S (putV cx t s old j v) R) (hos:old.size=s) (hvn:v≠ .t .any) (hvz:v.size=sizeOf cx t) (hfit:j+v.size≤s)
  (hone: ∀(i:Nat) y,(over old.cells j v.cells)[i]?=some y→y.cells= [y]):
  ∃v',R v'∧v'≠ .t .any∧v'.cells=over old.cells j v.cells:=by
 have hol:=Acv old.cells j v.cells (by have:v.cells.length=v.size:=rfl;have:old.cells.length=old.size:=rfl;omega);have hol':(over old.cells j v.cells).length=s:=by rw [hol];exact hos
 unfold putV at h;split at h
 ·rename_i hw;simp only [zf,wv] at hw;have hj:=zp hw.1.1.2;have hs:=zp hw.1.2;subst hj;refine ⟨v,Aav h,hvn,?_⟩;apply vq;intro i;rw [AbI _ _ _ (by have:v.cells.length=v.size:=rfl;have:old.cells.length=old.size:=rfl;omega)];have hvl:v.cells.length=v.size:=rfl;by_cases hi:i<v.cells.length
  ·rw [if_pos (by omega),Nat.sub_zero]
  ·rw [if_neg (by omega),vo (by omega),vo (by have:old.cells.length=old.size:=rfl;omega)]
 ·have h1:wpQ S ((fun l=>match (generalizing:=false) old with
   | .t (.agg _)=>force (mkAgg l)
   | .agg _=>force (mkAgg l)
   |_=>match l with
    | [.t .any]=> .fail
    | [v]=> .ret v
    |_=> .fail) (over old.cells j v.cells)) R:=by
   rcases Afx (Aaa _ _ _ h) with ⟨h1,h2⟩|⟨h1,h2⟩
   ·have hfull:((over old.cells j v.cells).drop 0).take s=over old.cells j v.cells:=by
     rw [qr,vz (by omega)]
    rw [hfull] at h1;exact h1
   ·have:over old.cells j v.cells= []:=by
     cases hq:over old.cells j v.cells with
     |nil=>rfl
     |cons _ _=>rw [hq] at hol';simp at hol';omega
    rw [this];exact h2
  simp only at h1;have agg:wpQ S (force (mkAgg (over old.cells j v.cells))) R→ ∃v',R v'∧v'≠ .t .any∧v'.cells=over old.cells j v.cells:=fun h=>
   ⟨_,Aav h,by unfold mkAgg;split<;>simp,Abh _⟩
  split at h1
  ·exact agg h1
  ·exact agg h1
  ·split at h1
   ·exact h1.elim
   ·rename_i y hya hy;exact ⟨y,h1,fun e=>hya e,by rw [hy];exact hone 0 y (by rw [hy];rfl)⟩
   ·exact h1.elim
theorem Aoe {cx:Cx} {t s j:Nat} {old x:T} {c:Nat→Value} {u:Value} {R:T→Prop} (h:wpQ S (putT cx t s old j x) R) (hon:old≠ .any) (hos:old.cells.length=s) (hs0:0<s)
  (hcv: ∀(i:Nat) t,old.cells[i]?=some t→TR F w t (c i)) (hone: ∀i,i<s→(c i).oneCell'=true) (hx:TR F w x u) (hxn:x≠ .any) (hxz:x.cells.length=sizeOf cx t) (huz:u.cells.size=sizeOf cx t)
  (hu1: ∀(i:Nat) c,u.cells[i]?=some c→c.oneCell'=true) (hfit:j+x.cells.length≤s):
  ∃y,R y∧y≠ .any∧y.cells.length=s∧ ∀(i:Nat) t,y.cells[i]?=some t→TR F w t (if j≤i∧i<j+u.cells.size then u.cells.getD (i-j) undef else c i):=by
 obtain ⟨hlu,hcu⟩:=hx.cells hxn;have hov':=AbI old.cells j x.cells (by omega);have hol:=Acv old.cells j x.cells (by omega);have hcell: ∀(i:Nat) t,(over old.cells j x.cells)[i]?=some t→TR F w t (if j≤i∧i<j+u.cells.size then u.cells.getD (i-j) undef else c i):=by
  intro i t ht;rw [hov'] at ht;by_cases hin:j≤i∧i<j+x.cells.length
  ·rw [if_pos hin] at ht;rw [if_pos (by omega)];have hlt:i-j<u.cells.size:=by omega
   have hg:u.cells[i-j]?=some u.cells[i-j]:=by simp
   have:=hcu (i-j) t _ ht hg;simpa [hlt] using this
  ·rw [if_neg hin] at ht;rw [if_neg (by omega)];exact hcv i t ht
 unfold putT at h;split at h
 ·rename_i hw;simp only [zf,wv] at hw;have hj:=zp hw.1.1.2;have hs:=zp hw.1.2;subst hj;refine ⟨x,h,hxn,by omega,?_⟩;intro i t ht;have hlt:i<x.cells.length:=(zh.1 ht).1;have hlt':i<u.cells.size:=by omega
  rw [if_pos (by omega)];have hg:u.cells[i]?=some u.cells[i]:=by simp
  have:=hcu i t _ ht hg;simpa [hlt'] using this
 ·have hlen:(over old.cells j x.cells).length=s:=by rw [hol];exact hos
  rcases AkG (Aaa _ _ _ h) with ⟨h1,h2⟩|⟨h1,h2⟩
  ·have hfull:((over old.cells j x.cells).drop 0).take s=over old.cells j x.cells:=by
    rw [qr,vz (by omega)]
   rw [hfull] at h1;split at h1
   ·exact ⟨_,h1,by simp,hlen,hcell⟩
   ·rename_i hno;split at h1
    ·exact h1.elim
    ·rename_i y hya hy;have hs1:s=1:=by rw [←hlen,hy];rfl
     have hyn:y≠ .any:=fun e=>hya e;have h0:=hcell 0 y (by rw [hy];rfl);have h1c:(if j≤0∧0<j+u.cells.size then u.cells.getD (0-j) undef else c 0).oneCell'=true:=by
      split
      ·rename_i hin;have hlt:0-j<u.cells.size:=by omega
       have hg:u.cells[0-j]?=some u.cells[0-j]:=by simp
       have:=hu1 _ _ hg;have e:u.cells.getD (0-j) undef=u.cells[0-j]:=by unfold Array.getD;rw [dif_pos hlt];rfl
       rw [e];exact this
      ·exact hone 0 (by omega)
     have hyc:y.cells= [y]:=by
      apply T.cells_one;intro vs e;subst e;generalize (if j≤0∧0<j+u.cells.size then u.cells.getD (0-j) undef else c 0)=q at h0 h1c;cases h0;simp [ur] at h1c
     refine ⟨y,h1,hyn,by rw [hyc,hs1];rfl,?_⟩;rw [hyc,←hy];exact hcell
    ·exact h1.elim
  ·omega
theorem AgH {l:List Nat} (h:l.Nodup) {i j x:Nat} (hi:l[i]?=some x) (hj:l[j]?=some x):i=j:=by
 obtain ⟨h1,e1⟩:=zh.1 hi;obtain ⟨h2,e2⟩:=zh.1 hj;have hp:=List.pairwise_iff_getElem.1 h;rcases Nat.lt_trichotomy i j with hlt|rfl|hlt
 ·exact absurd (e1.trans e2.symm) (hp i j h1 h2 hlt)
 ·rfl
 ·exact absurd (e2.trans e1.symm) (hp j i h2 h1 hlt)
end
end Go.Eva