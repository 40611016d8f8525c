/- The abstract evaluator: values as data, owned memory by name. Definitions alone. -/
import Derived.Calls
import Derived.Laws.AppendOwn
import Derived.Maps.AppendAt
import Derived.Below
import Derived.Laws.Sem
import Derived.Laws.Entries
import Derived.ChangeKeysEq
import Derived.Laws.Strings
import Derived.Laws.StructEq
import Derived.Laws.Cells
import Derived.Laws.CopyRow
import Derived.Laws.MakeOwn
import Derived.Great.FillDense
import Derived.Lib.Strings
import Derived.Laws.BytesArg
import Derived.Laws.Tables
set_option linter.unusedVariables false
namespace Lx
open Go

def ifb {α : Type} (c : Bool) (t e : α) : α:=match c with | true=>t | false=>e
theorem Qd8q {α : Type} (t e : α) : ifb true t e = t:=rfl
theorem Qk7y {α : Type} (t e : α) : ifb false t e = e:=rfl
abbrev Path:=List (Nat × Nat)

inductive AV (Ty : Type) (El : Ty → Type) : Type
 | int (k : IntKind) (n : Int)
 | bool (b : Bool)
 | str (s : List UInt8)
 | sl (T : Ty) (xs : List (El T))
 | nils
 | own (r : Nat) (p : Path) (v : Nat)
 | view (r : Nat) (p : Path) (v w lo n : Nat)
 | ptr (r off : Nat)
 | eptr (r : Nat) (p : Path) (v w i j : Nat)
 | rop (cs : List (AV Ty El)) (off : Nat)
 | mapr (r : Nat)
 | nilp
 | agg (cs : List (AV Ty El))
 | tup (cs : List (AV Ty El))
 | fn (f : Fn) (caps : List (AV Ty El))
 | dead

inductive Msk | no | hole (p : Path)

inductive AObj (Ty : Type) (El : Ty → Type) : Type
 | box (cs : List (AV Ty El))
 | row (T : Ty) (xs : List (El T)) (d vr vn : Nat) (m : Msk)
 | mp (K V : Ty) (es : List (El K × El V))
 | gone
 | out

structure Cod (Ty : Type) (El : Ty → Type) where
 deq : DecidableEq Ty
 ty : TypeId → Option Ty
 row : (T : Ty) → El T → List (AV Ty El)
 unrow : (T : Ty) → List (AV Ty El) → Option (El T)
 dflt : (T : Ty) → El T
 hgt : Ty → Nat
 u8 : (T : Ty) → Option (El T → Int)
 agg : Ty → Bool
 key : Ty → Bool
 keq : (T : Ty) → El T → El T → Bool
 lit : Ty → Bool

section
variable {Ty : Type} {El : Ty → Type}

inductive Md | ro | io | al
 deriving Inhabited

structure Ent (Ty : Type) (El : Ty → Type) where
 mode : List Md
 need : Nat
 sum : List (AV Ty El) → List (AObj Ty El) → Option (Bool × AV Ty El × List (AObj Ty El))

inductive Sh (Ty : Type) | any | own (T : Ty) | ro (T : Ty) | agg (cs : List (Sh Ty)) | box (cs : List (Sh Ty))
 deriving Inhabited

structure OpRes (Ty : Type) (El : Ty → Type) where
 g : Bool
 v : AV Ty El
 wr : List (Nat × AObj Ty El)
 rd : List Nat

def omap {α β : Type} (f : α → Option β) : List α → Option (List β)
 | []=>some []
 | a :: l=>match f a with
  | some b=>match omap f l with
   | some m=>some (b :: m)
   | none=>none
  | none=>none

def isB (v : Value) : Bool:=match v with | .agg _=>true | _=>false

def ofVal1 : Value → AV Ty El
 | .int k n=>.int k n
 | .bool b=>.bool b
 | .string s=>.str s.data.toList
 | .pointer none=>.nilp
 | .slice none 0 0=>.nils
 | _=>.dead
def ofVal : Value → AV Ty El
 | .agg cs=>.agg (cs.toList.map ofVal1)
 | v=>ofVal1 v

def evalO (tm : Nat → AV Ty El) : Operand → AV Ty El
 | .tmp t=>tm t
 | .const v=>ofVal v
 | .func f=>.fn (.func f) []
 | .global _=>.dead

def Qp2e : AV Ty El:=.tup []

def cellsOf : AV Ty El → List (AV Ty El)
 | .agg cs=>cs
 | v=>[v]

def oneA : AV Ty El → Bool
 | .agg _ | .tup _ | .dead=>false
 | _=>true

def Qlnm : TypeDesc → Bool
 | .struct _ | .array _ _=>true
 | _=>false
def szOf (P : Program) (t : TypeId) : Option (Bool × Nat) :=
 match P.underlying t with
 | some d=>match P.info? t with
  | some i=>some (Qlnm d,i.size)
  | none=>none
 | none=>none

def partA (P : Program) (t : TypeId) (cs : List (AV Ty El)) (off : Nat) : Option (AV Ty El) :=
 match szOf P t with
 | some (true,n)=>if off + n ≤ cs.length then some (.agg ((cs.drop off).take n)) else none
 | some (false,_)=>cs[off]?
 | none=>none

def Qltv {α : Type} (cs : List α) (off : Nat) (ds : List α) : List α:=cs.take off ++ (ds ++ cs.drop (off + ds.length))

def subA (C : Cod Ty El) : (T : Ty) → List (El T) → Path → Option ((S : Ty) × List (El S))
 | T,xs,[]=>some ⟨T,xs⟩
 | T,xs,(i,j) :: p=>match (C.row T (xs.getD i (C.dflt T)))[j]? with
  | some (.sl S ys)=>subA C S ys p
  | _=>none

def castL (C : Cod Ty El) (S T : Ty) (xs : List (El S)) : Option (List (El T)) :=
 match C.deq S T with
 | .isTrue h=>some (h ▸ xs)
 | .isFalse _=>none

def setA (C : Cod Ty El) : (T : Ty) → List (El T) → Path → (S : Ty) → List (El S) → Option (List (El T))
 | T,_,[],S,ys=>castL C S T ys
 | T,xs,(i,j) :: p,S,ys=>match (C.row T (xs.getD i (C.dflt T)))[j]? with
  | some (.sl U zs)=>match setA C U zs p S ys with
   | some zs'=>match C.unrow T (Qltv (C.row T (xs.getD i (C.dflt T))) j [.sl U zs']) with
    | some y=>some (xs.set i y)
    | none=>none
   | none=>none
  | _=>none

def verAt (p : Path) (vr vn : Nat) : Nat:=match p with | []=>vr | _ :: _=>vn

structure Row (Ty : Type) (El : Ty → Type) where
 T : Ty
 xs : List (El T)
 d : Nat
 vn : Nat

def rowAt (C : Cod Ty El) (hp : Nat → AObj Ty El) (r : Nat) (p : Path) (v : Nat) : Option (Row Ty El) :=
 match hp r with
 | .row T xs d vr vn m=>match m with
  | .no=>match p with
   | []=>if v = vr then some ⟨T,xs,d,vn⟩ else none
   | q :: p=>if v = vn then (if p.length < d then match subA C T xs (q :: p) with
     | some s=>some ⟨s.1,s.2,d - (p.length + 1),vn⟩
     | none=>none
    else none) else none
  | _=>none
 | _=>none

def markL (r : Nat) (p : Path) (vn d i : Nat) : List (AV Ty El) → Nat → List (AV Ty El)
 | [],_=>[]
 | c :: l,j=>(match c with
  | .sl T xs=>match d with
   | 0=>.sl T xs
   | _ + 1=>.own r (p ++ [(i,j)]) vn
  | c=>c) :: markL r p vn d i l (j + 1)

def loadA (P : Program) (C : Cod Ty El) (hp : Nat → AObj Ty El) (t : TypeId) : AV Ty El → Option (AV Ty El × List Nat)
 | .ptr r off=>match hp r with
  | .box cs=>match partA P t cs off with
   | some v=>some (v,[r])
   | none=>none
  | _=>none
 | .eptr r p v w i j=>match rowAt C hp r p v with
  | some R=>if w = (C.row R.T (C.dflt R.T)).length then match partA P t (markL r p R.vn R.d i (C.row R.T (R.xs.getD i (C.dflt R.T))) 0) j with
    | some x=>some (x,[r])
    | none=>none
   else none
  | none=>none
 | .rop cs off=>match partA P t cs off with
  | some v=>some (v,[])
  | none=>none
 | _=>none

structure CellSt (Ty : Type) (El : Ty → Type) where
 c : AV Ty El
 g : Bool
 inn : List Nat
 dm : Nat

def Qov5 (C : Cod Ty El) (hp : Nat → AObj Ty El) (r : Nat) (p : Path) (vn d i j : Nat) (old x : AV Ty El) : Option (CellSt Ty El) :=
 match x with
 | .int k n=>some ⟨.int k n,true,[],d⟩
 | .bool b=>some ⟨.bool b,true,[],d⟩
 | .str s=>some ⟨.str s,true,[],d⟩
 | .sl T xs=>some ⟨.sl T xs,true,[],0⟩
 | .nils=>match old with
  | .sl T _=>some ⟨.sl T [],true,[],d⟩
  | _=>none
 | .own r' q v=>if r' = r then
   (if v = vn ∧ 0 < d then match q.getLast? with
    | some (i',j')=>if q.length = p.length + 1 ∧ j' = j then some ⟨old,decide (q.dropLast = p) && decide (i' = i),[],d⟩ else none
    | none=>none
   else none)
  else match q,hp r' with
   | [],.row T xs d' vr' _ m=>match m with
    | .no=>if v = vr' then some ⟨.sl T xs,true,[r'],if min (d - 1) (C.hgt T) ≤ d' then d else d' + 1⟩ else none
    | _=>none
   | _,_=>none
 | _=>none

def Qdl0 (C : Cod Ty El) (hp : Nat → AObj Ty El) (r : Nat) (p : Path) (vn d i : Nat) : List (AV Ty El) → List (AV Ty El) → Nat → Option (List (AV Ty El) × Bool × List Nat × Nat)
 | [],_,_=>some ([],true,[],d)
 | _ :: _,[],_=>none
 | x :: xs,o :: os,j=>match Qov5 C hp r p vn d i j o x with
  | none=>none
  | some s=>match Qdl0 C hp r p vn d i xs os (j + 1) with
   | none=>none
   | some (cs,g,inn,dm)=>some (s.c :: cs,s.g && g,s.inn ++ inn,min s.dm dm)

def Qnne : List Nat → Bool
 | []=>true
 | a :: l=>!l.contains a && Qnne l

def bump (vr vn : Nat) : Nat:=max (max vr vn) 1 + 1

def Q40g (P : Program) (C : Cod Ty El) (hp : Nat → AObj Ty El) (t : TypeId) (x : AV Ty El) : AV Ty El → Option (Bool × List (Nat × AObj Ty El))
 | .ptr r off=>match hp r with
  | .box cs=>match szOf P t with
   | some (_,n)=>if (cellsOf x).length = n ∧ off + n ≤ cs.length ∧ (cellsOf x).all oneA = true then some (true,[(r,.box (Qltv cs off (cellsOf x)))]) else none
   | none=>none
  | _=>none
 | .eptr r p v w i j=>match hp r with
  | .row T0 xs0 d0 vr vn m=>match m with
   | .no=>match rowAt C hp r p v with
    | some R=>match szOf P t with
     | some (_,n)=>if w = (C.row R.T (C.dflt R.T)).length ∧ (cellsOf x).length = n ∧ j + n ≤ (C.row R.T (R.xs.getD i (C.dflt R.T))).length then
       match Qdl0 C hp r p vn R.d i (cellsOf x) ((C.row R.T (R.xs.getD i (C.dflt R.T))).drop j) j with
       | some (cs,g,inn,dm)=>match C.unrow R.T (Qltv (C.row R.T (R.xs.getD i (C.dflt R.T))) j cs) with
        | some y=>match setA C T0 xs0 p R.T (R.xs.set i y) with
         | some xs'=>if Qnne inn = true then some (g,(r,.row T0 xs' (p.length + dm) vr (bump vr vn) .no) :: inn.map fun k=>(k,.out)) else none
         | none=>none
        | none=>none
       | none=>none
      else none
     | none=>none
    | none=>none
   | .hole q=>match p,q,x with
    | [],[(i',j')],.own r' [] v'=>match (C.row T0 (xs0.getD i (C.dflt T0)))[j]?,hp r' with
     | some (.sl U _),.row U' zs d' vr' _ .no=>if r' ≠ r ∧ v' = vr' ∧ v = vr ∧ w = (C.row T0 (C.dflt T0)).length ∧ j' = j ∧ 0 < d0 ∧ (szOf P t).map (·.2) = some 1 ∧ min (d0 - 1) (C.hgt U) ≤ d' then
       match castL C U' U zs with
       | some zs'=>match C.unrow T0 (Qltv (C.row T0 (xs0.getD i (C.dflt T0))) j [.sl U zs']) with
        | some y=>some (decide (i' = i),[(r,.row T0 (xs0.set i y) d0 vr (bump vr vn) .no),(r',.out)])
        | none=>none
       | none=>none
      else none
     | _,_=>none
    | _,_,_=>none
  | _=>none
 | _=>none

def Q7zj : List UInt8 → List UInt8 → Bool
 | _,[]=>false
 | [],_ :: _=>true
 | a :: x,b :: y=>a < b || (a == b && Q7zj x y)

def eqF (P : Program) : List Field → Nat → List (AV Ty El) → List (AV Ty El) → Option Bool
 | [],_,[],[]=>some true
 | f :: fs,k,a :: as,b :: bs=>if (f.name == "_") = false ∧ f.offset = k then
   match eqF P fs (k + 1) as bs with
   | some r=>match P.underlying f.type,a,b with
    | some (.int _),.int q x,.int q' y=>if q = q' then some ((x == y) && r) else none
    | some .bool,.bool x,.bool y=>some ((x == y) && r)
    | some .string,.str x,.str y=>some ((x == y) && r)
    | _,_,_=>none
   | none=>none
  else none
 | _,_,_,_=>none
def eqAgg (P : Program) (t : TypeId) (as bs : List (AV Ty El)) : Option Bool :=
 match P.underlying t with
 | some (.struct fs)=>if P.stoodInHeld t = false ∧ P.eqGuardType P.depth t = false then eqF P fs.toList 0 as bs else none
 | _=>none

def Q9hw (op : BinOp) (k : IntKind) (a b : Int) : Option (Bool × AV Ty El) :=
 match op with
 | .add=>some (true,.int k (k.wrap (a + b)))
 | .sub=>some (true,.int k (k.wrap (a - b)))
 | .mul=>some (true,.int k (k.wrap (a * b)))
 | .quo=>some (!(b == 0),.int k (k.wrap (a.tdiv b)))
 | .rem=>some (!(b == 0),.int k (a.tmod b))
 | .xor=>some (true,.int k (k.wrap (BitVec.ofInt k.bits a ^^^ BitVec.ofInt k.bits b).toNat))
 | .eql=>some (true,.bool (a == b))
 | .neq=>some (true,.bool (a != b))
 | .lss=>some (true,.bool (decide (a < b)))
 | .leq=>some (true,.bool (decide (a ≤ b)))
 | .gtr=>some (true,.bool (decide (a > b)))
 | .geq=>some (true,.bool (decide (a ≥ b)))
 | _=>none

def Qrw6 (op : BinOp) (a b : List UInt8) : Option (Bool × AV Ty El) :=
 match op with
 | .add=>some (decide (a.length + b.length ≤ 9223372036854775807),.str (a ++ b))
 | .eql=>some (true,.bool (a == b))
 | .neq=>some (true,.bool (!(a == b)))
 | .lss=>some (true,.bool (Q7zj a b))
 | .leq=>some (true,.bool (Q7zj a b || a == b))
 | .gtr=>some (true,.bool (!(Q7zj a b || a == b)))
 | .geq=>some (true,.bool (!(Q7zj a b)))
 | _=>none

def binA (P : Program) (t : TypeId) (op : BinOp) (x y : AV Ty El) : Option (Bool × AV Ty El) :=
 match x,y with
 | .int k a,.int k' b=>if k = k' then Q9hw op k a b else none
 | .str a,.str b=>Qrw6 op a b
 | .bool a,.bool b=>match P.underlying t,op with
  | some .bool,.eql=>some (true,.bool (a == b))
  | some .bool,.neq=>some (true,.bool (!(a == b)))
  | _,_=>none
 | .agg as,.agg bs=>match op with
  | .eql=>match eqAgg P t as bs with
   | some e=>some (true,.bool e)
   | none=>none
  | .neq=>match eqAgg P t as bs with
   | some e=>some (true,.bool (!e))
   | none=>none
  | _=>none
 | _,_=>none

def lenA (C : Cod Ty El) (hp : Nat → AObj Ty El) : AV Ty El → Option (Int × List Nat)
 | .sl _ xs=>some ((xs.length : Int),[])
 | .nils=>some (0,[])
 | .str s=>some ((s.length : Int),[])
 | .own r p v=>match rowAt C hp r p v with
  | some R=>some ((R.xs.length : Int),[r])
  | none=>none
 | .view r p v _ _ n=>match rowAt C hp r p v with
  | some _=>some ((n : Int),[r])
  | none=>none
 | _=>none

def readA (C : Cod Ty El) (hp : Nat → AObj Ty El) : AV Ty El → Option (((T : Ty) × List (El T)) × List Nat)
 | .sl T xs=>some (⟨T,xs⟩,[])
 | .own r p v=>match rowAt C hp r p v with
  | some R=>some (⟨R.T,R.xs⟩,[r])
  | none=>none
 | .view r p v w lo n=>match rowAt C hp r p v with
  | some R=>if w = (C.row R.T (C.dflt R.T)).length then some (⟨R.T,(R.xs.drop lo).take n⟩,[r]) else none
  | none=>none
 | _=>none

def inb (i : Int) (n : Nat) : Bool:=decide (0 ≤ i) && decide (i < (n : Int))

end
end Lx
namespace Lx
open Go
section
variable {Ty : Type} {El : Ty → Type}

def setL {α : Type} : List α → Nat → α → List α
 | [],_,_=>[]
 | _ :: l,0,x=>x :: l
 | a :: l,n + 1,x=>a :: setL l n x

def rf : Nat → AV Ty El → Bool
 | 0,_=>false
 | n + 1,v=>match v with
  | .own .. | .view .. | .ptr .. | .eptr .. | .mapr _=>false
  | .agg cs | .tup cs | .rop cs _ | .fn _ cs=>cs.all (rf n)
  | _=>true
def noRO : Nat → AV Ty El → Bool
 | 0,_=>false
 | n + 1,v=>match v with
  | .sl .. | .rop ..=>false
  | .agg cs | .tup cs | .fn _ cs=>cs.all (noRO n)
  | _=>true
def Q8y6 (C : Cod Ty El) : AObj Ty El → Bool
 | .box cs=>cs.all (noRO 3)
 | .row T _ d _ _ m=>match m with
  | .no=>decide (C.hgt T ≤ d)
  | _=>false
 | .mp ..=>false
 | .gone=>true
 | .out=>true

def lend (C : Cod Ty El) (hp : Nat → AObj Ty El) : Nat → AV Ty El → Option (AV Ty El)
 | 0,_=>none
 | n + 1,v=>match v with
  | .own r p ver=>match rowAt C hp r p ver with
   | some R=>some (.sl R.T R.xs)
   | none=>none
  | .view r p ver w lo m=>match rowAt C hp r p ver with
   | some R=>if w = (C.row R.T (C.dflt R.T)).length then some (.sl R.T ((R.xs.drop lo).take m)) else none
   | none=>none
  | .ptr r off=>match hp r with
   | .box cs=>match omap (lend C hp n) cs with
    | some ds=>some (.rop ds off)
    | none=>none
   | _=>none
  | .eptr r p ver w i j=>match rowAt C hp r p ver with
   | some R=>if w = (C.row R.T (C.dflt R.T)).length then some (.rop (C.row R.T (R.xs.getD i (C.dflt R.T))) j) else none
   | none=>none
  | .agg cs=>match omap (lend C hp n) cs with
   | some ds=>some (.agg ds)
   | none=>none
  | .tup cs=>none
  | .fn f cs=>match omap (lend C hp n) cs with
   | some ds=>some (.fn f ds)
   | none=>none
  | .dead=>none
  | v=>if rf 4 v then some v else none
def Qgsz (hp : Nat → AObj Ty El) : Nat → AV Ty El → List Nat
 | 0,_=>[]
 | n + 1,v=>match v with
  | .own r _ _ | .view r .. | .eptr r ..=>[r]
  | .ptr r _=>r :: (match hp r with
   | .box cs=>cs.flatMap (Qgsz hp n)
   | _=>[])
  | .agg cs | .tup cs | .fn _ cs=>cs.flatMap (Qgsz hp n)
  | _=>[]

def idxOf (r : Nat) : List Nat → Nat → Option Nat
 | [],_=>none
 | a :: l,k=>if a = r then some k else idxOf r l (k + 1)

structure Tgt where
 r : Nat
 p : Path
 vr : Nat
 vn : Nat
 mx : Nat

def ren (f : Nat → Option Tgt) : Nat → AV Ty El → Option (AV Ty El)
 | 0,_=>none
 | n + 1,v=>match v with
  | .own r q ver=>match f r with
   | some t=>if ver = 0 ∧ q.length ≤ t.mx then some (.own t.r (t.p ++ q) (verAt (t.p ++ q) t.vr t.vn)) else none
   | none=>none
  | .ptr r off=>match f r with
   | some t=>some (.ptr t.r off)
   | none=>none
  | .view .. | .eptr ..=>none
  | .agg cs=>match omap (ren f n) cs with
   | some ds=>some (.agg ds)
   | none=>none
  | .tup cs=>match omap (ren f n) cs with
   | some ds=>some (.tup ds)
   | none=>none
  | .fn g cs=>match omap (ren f n) cs with
   | some ds=>some (.fn g ds)
   | none=>none
  | v=>if rf 4 v then some v else none

inductive Hnd | row (r : Nat) (p : Path) | box (r : Nat)
def Hnd.r : Hnd → Nat
 | .row r _=>r
 | .box r=>r

def ownsL : List (AV Ty El) → List Hnd
 | []=>[]
 | .own r p _ :: l=>.row r p :: ownsL l
 | _ :: l=>ownsL l

def handL (C : Cod Ty El) (hp : Nat → AObj Ty El) : List Md → List (AV Ty El) → Option (List Hnd)
 | [],_=>some []
 | _ :: _,[]=>some []
 | m :: ms,v :: vs=>match handL C hp ms vs with
  | none=>none
  | some l=>match m with
   | .io=>match v with
    | .own r p _=>some (.row r p :: l)
    | .eptr r p _ _ _ _=>some (.row r p :: l)
    | .ptr r 0=>match hp r with
     | .box cs=>some (.box r :: (ownsL cs ++ l))
     | _=>none
    | .agg cs=>some (ownsL cs ++ l)
    | _=>none
   | _=>some l

def alIdx (r : Nat) : List Hnd → Nat → Option Nat
 | [],_=>none
 | h :: l,k=>match h with
  | .row r' []=>if r' = r then some k else alIdx r l (k + 1)
  | _=>alIdx r l (k + 1)

def Qlqh (C : Cod Ty El) (hp : Nat → AObj Ty El) : List (AV Ty El) → Nat → Option (List (AV Ty El))
 | [],_=>some []
 | c :: l,k=>match c with
  | .own r p ver=>match rowAt C hp r p ver,Qlqh C hp l (k + 1) with
   | some _,some ds=>some (.own k [] 0 :: ds)
   | _,_=>none
  | c=>match Qlqh C hp l k with
   | some ds=>if rf 3 c then some (c :: ds) else none
   | none=>none

def Qdpt (C : Cod Ty El) (hp : Nat → AObj Ty El) : List Hnd → Nat → Option (List (AObj Ty El))
 | [],_=>some []
 | h :: hs,k=>match (match h with
   | .row r p=>match hp r with
    | .row T xs d vr vn .no=>match rowAt C hp r p (verAt p vr vn) with
     | some R=>some (.row R.T R.xs (min R.d (C.hgt R.T)) 0 0 .no)
     | none=>none
    | _=>none
   | .box r=>match hp r with
    | .box cs=>match Qlqh C hp cs (k + 1) with
     | some ds=>some (.box ds)
     | none=>none
    | _=>none : Option (AObj Ty El)),Qdpt C hp hs (k + 1) with
  | some o,some os=>some (o :: os)
  | _,_=>none

def Qa5i (C : Cod Ty El) (hp : Nat → AObj Ty El) (hs : List Hnd) : List Md → List (AV Ty El) → Nat → Option (List (AV Ty El))
 | _,[],_=>some []
 | [],v :: vs,k=>match lend C hp 4 v,Qa5i C hp hs [] vs k with
  | some x,some xs=>some (x :: xs)
  | _,_=>none
 | m :: ms,v :: vs,k=>match m with
  | .ro=>match lend C hp 4 v,Qa5i C hp hs ms vs k with
   | some x,some xs=>some (x :: xs)
   | _,_=>none
  | .al=>match v with
   | .own r [] ver=>match rowAt C hp r [] ver,alIdx r hs 0,Qa5i C hp hs ms vs k with
    | some _,some n,some xs=>some (.own n [] 0 :: xs)
    | _,_,_=>none
   | .eptr r [] ver w i j=>match rowAt C hp r [] ver,alIdx r hs 0,Qa5i C hp hs ms vs k with
    | some _,some n,some xs=>some (.eptr n [] 0 w i j :: xs)
    | _,_,_=>none
   | _=>none
  | .io=>match v with
   | .own r p ver=>match rowAt C hp r p ver,Qa5i C hp hs ms vs (k + 1) with
    | some _,some xs=>some (.own k [] 0 :: xs)
    | _,_=>none
   | .eptr r p ver w i j=>match rowAt C hp r p ver,Qa5i C hp hs ms vs (k + 1) with
    | some _,some xs=>some (.eptr k [] 0 w i j :: xs)
    | _,_=>none
   | .ptr r 0=>match hp r with
    | .box cs=>match Qa5i C hp hs ms vs (k + 1 + (ownsL cs).length) with
     | some xs=>some (.ptr k 0 :: xs)
     | none=>none
    | _=>none
   | .agg cs=>match Qlqh C hp cs k,Qa5i C hp hs ms vs (k + (ownsL cs).length) with
    | some ds,some xs=>some (.agg ds :: xs)
    | _,_=>none
   | _=>none

def Q3h4 (hp : Nat → AObj Ty El) (io : List Nat) : List Md → List (AV Ty El) → Bool
 | _,[]=>true
 | .ro :: ms,v :: vs=>(Qgsz hp 4 v).all (fun r=>!io.contains r) && Q3h4 hp io ms vs
 | .io :: ms,_ :: vs=>Q3h4 hp io ms vs
 | .al :: ms,_ :: vs=>Q3h4 hp io ms vs
 | [],v :: vs=>(Qgsz hp 4 v).all (fun r=>!io.contains r) && Q3h4 hp io [] vs

def Qmtv : List Md → List (AV Ty El) → Bool
 | _,[]=>true
 | .ro :: ms,v :: vs=>rf 4 v && Qmtv ms vs
 | .io :: ms,_ :: vs=>Qmtv ms vs
 | .al :: ms,_ :: vs=>Qmtv ms vs
 | [],v :: vs=>rf 4 v && Qmtv [] vs

def Q9az (C : Cod Ty El) (hp : Nat → AObj Ty El) (f : Nat → Option Tgt) (h : Hnd) (new : AObj Ty El) : Option (AObj Ty El) :=
 match h with
 | .row r p=>match hp r with
  | .row T xs d vr vn .no=>match new with
   | .row S ys d' 0 0 .no=>match p with
    | []=>some (.row S ys d' vr (bump vr vn) .no)
    | _=>if min (d - p.length) (C.hgt S) ≤ d' ∧ d' ≤ d - p.length then match setA C T xs p S ys with
      | some xs'=>some (.row T xs' d vr (bump vr vn) .no)
      | none=>none
     else none
   | .out=>match p with
    | []=>some .out
    | q :: p=>match subA C T xs (q :: p) with
     | some s=>match setA C T xs (q :: p) s.1 [] with
      | some xs'=>some (.row T xs' d vr (bump vr vn) (.hole (q :: p)))
      | none=>none
     | none=>none
   | _=>none
  | _=>none
 | .box r=>match hp r,new with
  | .box _,.box cs=>match omap (ren f 3) cs with
   | some ds=>some (.box ds)
   | none=>none
  | _,_=>none
def Qohv (C : Cod Ty El) (hp : Nat → AObj Ty El) (f : Nat → Option Tgt) : List Hnd → List (AObj Ty El) → Option (List (Nat × AObj Ty El) × List (AObj Ty El))
 | [],H=>some ([],H)
 | h :: hs,o :: H=>match Q9az C hp f h o with
  | some o'=>match Qohv C hp f hs H with
   | some (ws,H')=>some ((h.r,o') :: ws,H')
   | none=>none
  | none=>none
 | _ :: _,[]=>none
def Qdkg (f : Nat → Option Tgt) : AObj Ty El → Option (AObj Ty El)
 | .box cs=>match omap (ren f 3) cs with
  | some ds=>some (.box ds)
  | none=>none
 | .row T xs d 0 0 .no=>some (.row T xs d 0 0 .no)
 | _=>none
def Qhs7 (f : Nat → Option Tgt) (fresh : Nat) : List (AObj Ty El) → Option (List (Nat × AObj Ty El))
 | []=>some []
 | o :: H=>match Qdkg f o with
  | some o'=>match Qhs7 f (fresh + 1) H with
   | some ws=>some ((fresh,o') :: ws)
   | none=>none
  | none=>none

abbrev Tab (Ty : Type) (El : Ty → Type):=List (FuncId × Ent Ty El)
def Tab.find : Tab Ty El → FuncId → Option (Ent Ty El)
 | [],_=>none
 | (g,e) :: l,f=>if g = f then some e else Tab.find l f

def backF (hp : Nat → AObj Ty El) (hs : List Hnd) (H' : List (AObj Ty El)) (fresh : Nat) : Nat → Option Tgt:=fun k =>
 match H'[k]? with
 | some (.row _ _ d 0 0 .no)=>if k < hs.length then (match hs[k]? with
   | some (.row r p)=>match hp r with
    | .row _ _ _ vr vn _=>some ⟨r,p,vr,bump vr vn,d⟩
    | _=>none
   | _=>none) else some ⟨fresh + (k - hs.length),[],0,0,d⟩
 | some (.box _)=>if k < hs.length then (match hs[k]? with
   | some (.box r)=>some ⟨r,[],0,0,0⟩
   | _=>none) else some ⟨fresh + (k - hs.length),[],0,0,0⟩
 | _=>none

def callA (C : Cod Ty El) (E : Tab Ty El) (g : FuncId) (args : List (AV Ty El)) (fresh : Nat) (hp : Nat → AObj Ty El) : Option (OpRes Ty El) :=
 match E.find g with
 | none=>none
 | some e=>match handL C hp e.mode args with
  | none=>none
  | some hs=>match Qa5i C hp hs e.mode args 0,Qdpt C hp hs 0 with
   | some xs,some H=>match e.sum xs H with
    | none=>none
    | some (c,res,H') =>
     match Qohv C hp (backF hp hs H' fresh) hs H',ren (backF hp hs H' fresh) 4 res with
     | some (ws,news),some v =>
      match Qhs7 (backF hp hs H' fresh) fresh news with
      | some ws' =>
       if news.length ≤ e.need ∧ Qnne (hs.map Hnd.r) = true ∧ Q3h4 hp (hs.map Hnd.r) e.mode args = true ∧ ((Qmtv e.mode args) = true ∨ (noRO 4 res && H'.all (Q8y6 C)) = true) then
        some ⟨c,v,ws ++ ws',args.flatMap (Qgsz hp 4)⟩
       else none
      | none=>none
     | _,_=>none
   | _,_=>none

def Q9oq (P : Program) (t : TypeId) (f : Nat) : Option (TypeId × Nat) :=
 match P.underlying t with
 | some (.struct fs)=>match fs.toList[f]? with
  | some x=>match szOf P x.type with
   | some (_,0)=>none
   | some _=>some (x.type,x.offset)
   | none=>none
  | none=>none
 | _=>none
def Qtpu (P : Program) (t : TypeId) : Option TypeId :=
 match P.underlying t with
 | some (.slice e)=>some e
 | _=>none
def elTy (P : Program) (C : Cod Ty El) (t : TypeId) : Option Ty :=
 match Qtpu P t with
 | some e=>C.ty e
 | none=>none
def Qucw (P : Program) (C : Cod Ty El) (t : TypeId) (T : Ty) : Bool :=
 match elTy P C t with
 | some S=>match C.deq S T with
  | .isTrue _=>true
  | .isFalse _=>false
 | none=>false
def isStr (P : Program) (t : TypeId) : Bool:=match P.underlying t with | some .string=>true | _=>false
def isSl (P : Program) (t : TypeId) : Bool:=match P.underlying t with | some (.slice _)=>true | _=>false
def zeroA (P : Program) (t : TypeId) : Option (AV Ty El) :=
 match P.info? t with
 | some i=>match i.zero with
  | some z=>some (ofVal z)
  | none=>none
 | none=>none

def fillA (place : Nat → Option (Nat × Nat)) : List (AV Ty El) → List (Nat × AV Ty El) → Option (List (AV Ty El))
 | cs,[]=>some cs
 | cs,(i,v) :: rest=>match place i with
  | none=>none
  | some (off,size)=>if (cellsOf v).length = size ∧ off + size ≤ cs.length then fillA place (Qltv cs off (cellsOf v)) rest else none
def Q1ic (P : Program) (t : TypeId) : Option (Nat → Option (Nat × Nat)) :=
 match P.underlying t with
 | some (.array _ e)=>match P.info? e with
  | some ie=>some fun i=>some (i * ie.size,ie.size)
  | none=>none
 | some (.struct fs)=>match fs.toList.mapM (fun f=>(P.info? f.type).map fun i=>(f.offset,i.size)) with
  | some places=>some fun i=>places.toArray[i]?
  | none=>none
 | _=>none

def Qner (tm : Nat → AV Ty El) (ps : List (Nat × Operand)) : List (Nat × AV Ty El):=ps.map fun p=>(p.1,evalO tm p.2)

def Q6uz (C : Cod Ty El) (hp : Nat → AObj Ty El) (fresh : Nat) (T : Ty) : List (Nat × AV Ty El) → Nat → Option (List (El T) × List Nat × Nat)
 | [],_=>some ([],[],C.hgt T)
 | (i,v) :: l,k=>if i = k then match Qdl0 C hp fresh [] 0 (C.hgt T) 0 (cellsOf v) (C.row T (C.dflt T)) 0 with
   | some (cs,g,inn,dm)=>match g with
    | true=>match C.unrow T cs with
     | some x=>match Q6uz C hp fresh T l (k + 1) with
      | some (xs,inn',dm')=>some (x :: xs,inn ++ inn',min dm dm')
      | none=>none
     | none=>none
    | false=>none
   | none=>none
  else none

def asI : AV Ty El → Option Int
 | .int _ n=>some n
 | _=>none
def Q8tx (tm : Nat → AV Ty El) (dflt : Int) : Option Operand → Option Int
 | none=>some dflt
 | some x=>asI (evalO tm x)

def okr (v : AV Ty El) : Option (OpRes Ty El):=some ⟨true,v,[],[]⟩
def Qbhn (P : Program) (t : TypeId) : Nat:=match P.info? t with | some i=>i.bytes | none=>0

def srcA (C : Cod Ty El) (hp : Nat → AObj Ty El) (x : AV Ty El) : Option (((T : Ty) × List (El T)) × Nat × List (Nat × AObj Ty El) × List Nat) :=
 match readA C hp x with
 | none=>none
 | some (s,rd)=>if C.hgt s.1 = 0 then some (s,0,[],rd) else match x with
  | .sl _ _=>some (s,0,[],rd)
  | .own r p _=>match hp r with
   | .row T xs d vr vn .no=>match p with
    | []=>if vn = 1 then some (s,d,[(r,.out)],rd) else if d = 0 then some (s,0,[],rd) else some (s,0,[(r,.row T xs 0 vr (bump vr vn) .no)],rd)
    | _=>if d = p.length then some (s,0,[],rd) else some (s,0,[(r,.row T xs p.length vr (bump vr vn) .no)],rd)
   | _=>none
  | .view r p _ _ _ _=>match hp r with
   | .row T xs d vr vn .no=>if d = p.length then some (s,0,[],rd) else some (s,0,[(r,.row T xs p.length vr (bump vr vn) .no)],rd)
   | _=>none
  | _=>none

def Q67l (P : Program) (C : Cod Ty El) (t : TypeId) (hp : Nat → AObj Ty El) (fresh : Nat) (s x : AV Ty El) : Option (OpRes Ty El) :=
 match Qtpu P t with
 | none=>none
 | some e=>match C.ty e with
  | none=>none
  | some T=>match srcA C hp x with
   | none=>none
   | some (⟨S,ys⟩,dz,ws,rd)=>match castL C S T ys with
    | none=>none
    | some zs=>match s with
     | .nils=>some ⟨decide (zs.length * Qbhn P e ≤ 140737488355328),.own fresh [] (bump 0 0),(fresh,.row T zs dz (bump 0 0) (bump 0 0) .no) :: ws,rd⟩
     | .own r p v=>if (ws.map (·.1)).contains r = true then none else match hp r with
      | .row R us d vr vn .no=>match p with
       | []=>if v = vr then match castL C R T us with
        | some us=>some ⟨decide ((us.length + zs.length) * Qbhn P e ≤ 140737488355328),.own r [] (bump vr vn),(r,.row T (us ++ zs) (min d dz) (bump vr vn) (bump vr vn) .no) :: ws,r :: rd⟩
        | none=>none
        else none
       | _=>match rowAt C hp r p v with
        | some Q=>match castL C Q.T T Q.xs,setA C R us p Q.T [] with
         | some qs,some us'=>some ⟨decide ((qs.length + zs.length) * Qbhn P e ≤ 140737488355328),.own fresh [] (bump 0 0),[(r,.row R us' d vr (bump vr vn) (.hole p)),(fresh,.row T (qs ++ zs) (min Q.d dz) (bump 0 0) (bump 0 0) .no)] ++ ws,r :: rd⟩
         | _,_=>none
        | none=>none
      | _=>none
     | _=>none

def max2A (a b : Int) : Int:=if b > a then b else a
def min2A (a b : Int) : Int:=if b < a then b else a
def foldI (f : Int → Int → Int) (k : IntKind) : Int → List (AV Ty El) → Option (AV Ty El)
 | a,[]=>some (.int k a)
 | a,.int k' b :: l=>if k = k' then foldI f k (f a b) l else none
 | _,_ :: _=>none

def Q3m4 (P : Program) (C : Cod Ty El) (b : Builtin) (ats : Array TypeId) (args : List (AV Ty El)) (fresh : Nat) (hp : Nat → AObj Ty El) : Option (OpRes Ty El) :=
 match b,args with
 | .len,[x]=>match lenA C hp x,ats.toList with
  | some (n,rd),[t]=>match x with
   | .str _=>if isStr P t then some ⟨true,.int .i64 n,[],rd⟩ else none
   | _=>if isSl P t then some ⟨true,.int .i64 n,[],rd⟩ else none
  | _,_=>none
 | .append,[s,x]=>match ats.toList with
  | [t,t']=>if t = t' then Q67l P C t hp fresh s x else none
  | _=>none
 | .max,.int k a :: l=>match foldI max2A k a l with
  | some v=>okr v
  | none=>none
 | .min,.int k a :: l=>match foldI min2A k a l with
  | some v=>okr v
  | none=>none
 | _,_=>none

def Qkrz (P : Program) (C : Cod Ty El) (tm : Nat → AV Ty El) (hp : Nat → AObj Ty El) (t : TypeId) (x : AV Ty El) (lo hi : Option Operand) : Option (OpRes Ty El) :=
 match x with
 | .str s=>match Q8tx tm 0 lo,Q8tx tm (s.length : Int) hi with
  | some l,some h=>if isStr P t then some ⟨decide (0 ≤ l) && (decide (l ≤ h) && decide (h ≤ (s.length : Int))),.str ((s.drop l.toNat).take (h.toNat - l.toNat)),[],[]⟩ else none
  | _,_=>none
 | .sl T xs=>match Q8tx tm 0 lo,Q8tx tm (xs.length : Int) hi with
  | some l,some h=>if Qucw P C t T then some ⟨decide (0 ≤ l) && (decide (l ≤ h) && decide (h ≤ (xs.length : Int))),.sl T ((xs.drop l.toNat).take (h.toNat - l.toNat)),[],[]⟩ else none
  | _,_=>none
 | .own r p v=>match rowAt C hp r p v with
  | some R=>match Q8tx tm 0 lo,Q8tx tm (R.xs.length : Int) hi with
   | some l,some h=>if Qucw P C t R.T then some ⟨decide (0 ≤ l) && (decide (l ≤ h) && decide (h ≤ (R.xs.length : Int))),.view r p v (C.row R.T (C.dflt R.T)).length l.toNat (h.toNat - l.toNat),[],[r]⟩ else none
   | _,_=>none
  | none=>none
 | _=>none

def Qum2 (C : Cod Ty El) (hp : Nat → AObj Ty El) (r : Nat) (p : Path) (v : Nat) : Option ((T : Ty) × List (El T)) :=
 match p with
 | []=>match hp r with
  | .row T xs _ vr _ _=>if v = vr then some ⟨T,xs⟩ else none
  | _=>none
 | q :: p=>match rowAt C hp r (q :: p) v with
  | some R=>some ⟨R.T,R.xs⟩
  | none=>none

def Qqui (P : Program) (C : Cod Ty El) (hp : Nat → AObj Ty El) (t : TypeId) (x : AV Ty El) (i : Int) : Option (OpRes Ty El) :=
 match x with
 | .sl T xs=>if Qucw P C t T then some ⟨inb i xs.length,.rop (C.row T (xs.getD i.toNat (C.dflt T))) 0,[],[]⟩ else none
 | .own r p v=>match Qum2 C hp r p v with
  | some R=>if Qucw P C t R.1 then some ⟨inb i R.2.length,.eptr r p v (C.row R.1 (C.dflt R.1)).length i.toNat 0,[],[r]⟩ else none
  | none=>none
 | .view r p v w lo n=>match rowAt C hp r p v with
  | some R=>if Qucw P C t R.T ∧ w = (C.row R.T (C.dflt R.T)).length then some ⟨inb i n,.eptr r p v w (lo + i.toNat) 0,[],[r]⟩ else none
  | none=>none
 | .ptr r off=>match P.underlying t with
  | some (.array n e)=>match szOf P e with
   | some (_,sz)=>some ⟨inb i n,.ptr r (off + i.toNat * sz),[],[]⟩
   | none=>none
  | _=>none
 | .rop cs off=>match P.underlying t with
  | some (.array n e)=>match szOf P e with
   | some (_,sz)=>some ⟨inb i n,.rop cs (off + i.toNat * sz),[],[]⟩
   | none=>none
  | _=>none
 | _=>none

def dynOk (E : Tab Ty El) (f : Operand) (g : FuncId) : Bool :=
 match f with
 | .func _=>true
 | _=>match E.find g with
  | some e=>decide (e.need ≤ 2)
  | none=>false

def packA (C : Cod Ty El) (T : Ty) (cs : List (AV Ty El)) : AV Ty El:=if C.agg T then .agg cs else cs.headD .dead
def isAg : AV Ty El → Bool
 | .agg _=>true
 | _=>false
def mapTy (P : Program) (C : Cod Ty El) (t : TypeId) : Option (Ty × Ty):=match P.underlying t with
 | some (.map k e)=>match C.ty k,C.ty e with
  | some K,some V=>if C.key K then some (K,V) else none
  | _,_=>none
 | _=>none
def hasTy (P : Program) (C : Cod Ty El) (t : TypeId) (K V : Ty) : Bool:=match mapTy P C t with
 | some (K',V')=>have:=C.deq; decide (K' = K) && decide (V' = V)
 | none=>false
def Qkg2 (C : Cod Ty El) (T : Ty) (v : AV Ty El) : Option (El T):=if isAg v = C.agg T then C.unrow T (cellsOf v) else none
def hasK (C : Cod Ty El) (K V : Ty) (es : List (El K × El V)) (x : El K) : Bool:=es.any fun p=>C.keq K x p.1
def getK (C : Cod Ty El) (K V : Ty) (x : El K) : List (El K × El V) → El V
 | []=>C.dflt V
 | p :: es=>if C.keq K x p.1 = true then p.2 else getK C K V x es
def putK (C : Cod Ty El) (K V : Ty) (x : El K) (y : El V) : List (El K × El V) → List (El K × El V)
 | []=>[(x,y)]
 | p :: es=>if C.keq K x p.1 = true then (x,y) :: es else p :: putK C K V x y es
def updM (P : Program) (C : Cod Ty El) (hp : Nat → AObj Ty El) (t : TypeId) (m k x : AV Ty El) : Option (OpRes Ty El):=match m with
 | .mapr r=>match hp r with
  | .mp K V es=>if hasTy P C t K V = true then match Qkg2 C K k,Qkg2 C V x with
    | some a,some b=>some ⟨true,Qp2e,[(r,.mp K V (putK C K V a b es))],[r]⟩
    | _,_=>none
   else none
  | _=>none
 | _=>none
def lookA (P : Program) (C : Cod Ty El) (hp : Nat → AObj Ty El) (t : TypeId) (m k : AV Ty El) (ok : Bool) : Option (OpRes Ty El):=match m with
 | .mapr r=>match hp r with
  | .mp K V es=>if hasTy P C t K V = true then match Qkg2 C K k with
    | some a=>some ⟨true,if ok then .tup [packA C V (C.row V (getK C K V a es)),.bool (hasK C K V es a)] else packA C V (C.row V (getK C K V a es)),[],[r]⟩
    | none=>none
   else none
  | _=>none
 | _=>none
def makeA (P : Program) (C : Cod Ty El) (fresh : Nat) (t : TypeId) (l c : AV Ty El) : Option (OpRes Ty El):=match P.underlying t with
 | some (.slice e)=>match C.ty e,l,c with
  | some T,.int _ n,.int _ m=>some ⟨decide (0 ≤ n) && (decide (n = m) && decide ((Qbhn P e : Int) * n ≤ 281474976710656)),.own fresh [] 0,[(fresh,.row T (List.replicate n.toNat (C.dflt T)) (C.hgt T) 0 1 .no)],[]⟩
  | _,_,_=>none
 | _=>none

def opF (P : Program) (C : Cod Ty El) (E : Tab Ty El) (o : Oper) (fresh : Nat) (tm : Nat → AV Ty El) (hp : Nat → AObj Ty El) : Option (OpRes Ty El) :=
 match o.op with
 | .move x=>okr (evalO tm x)
 | .assign x=>match evalO tm x with
  | .nils=>match elTy P C o.type with
   | some T=>some ⟨true,.own fresh [] 0,[(fresh,.row T [] (C.hgt T) 0 0 .no)],[]⟩
   | none=>okr .nils
  | v=>okr v
 | .alloc t=>match zeroA P t with
  | some z=>if (cellsOf z).all oneA then some ⟨true,.ptr fresh 0,[(fresh,.box (cellsOf z))],[]⟩ else none
  | none=>none
 | .box _ x=>if (cellsOf (evalO tm x)).all oneA then some ⟨true,.ptr fresh 0,[(fresh,.box (cellsOf (evalO tm x)))],[]⟩ else none
 | .build t ps=>match zeroA P t with
  | some z=>match Q1ic P t with
   | some pl=>if ((Qner tm ps.toList).all fun q=>(cellsOf q.2).all oneA) = true then match fillA pl (cellsOf z) (Qner tm ps.toList) with
     | some cs=>okr (.agg cs)
     | none=>none
    else none
   | none=>none
  | none=>none
 | .buildSlice t n ps=>match elTy P C t with
  | some T=>if ps.toList.length = n ∧ n * (C.row T (C.dflt T)).length ≤ 16777216 then match Q6uz C hp fresh T (Qner tm ps.toList) 0 with
    | some (xs,inn,dm)=>if Qnne inn = true then
      (if C.lit T = true ∧ 0 < n then some ⟨true,.sl T xs,(fresh,.out) :: inn.map fun k=>(k,.out),inn⟩
      else some ⟨true,.own fresh [] 0,(fresh,.row T xs dm 0 1 .no) :: inn.map fun k=>(k,.out),inn⟩)
     else none
    | none=>none
   else none
  | none=>none
 | .load t a=>match loadA P C hp t (evalO tm a) with
  | some (v,rd)=>some ⟨true,v,[],rd⟩
  | none=>none
 | .store t a x=>match Q40g P C hp t (evalO tm x) (evalO tm a) with
  | some (g,ws)=>some ⟨g,Qp2e,ws,ws.map (·.1)⟩
  | none=>none
 | .nilCheck x=>match evalO tm x with
  | .ptr r off=>okr (.ptr r off)
  | .eptr r p v w i j=>okr (.eptr r p v w i j)
  | .rop cs off=>okr (.rop cs off)
  | _=>none
 | .binOp op t x y _=>match binA P t op (evalO tm x) (evalO tm y) with
  | some (g,v)=>some ⟨g,v,[],[]⟩
  | none=>none
 | .unOp op _ x=>match op,evalO tm x with
  | .not,.bool b=>okr (.bool (!b))
  | .neg,.int k n=>okr (.int k (k.wrap (0 - n)))
  | _,_=>none
 | .convert s d x=>match P.underlying s,P.underlying d,evalO tm x with
  | some _,some (.int k),.int _ n=>okr (.int k (k.wrap n))
  | some _,some .string,.str l=>okr (.str l)
  | some (.slice e),some .string,v=>match readA C hp v with
   | some (⟨T,xs⟩,rd)=>match C.u8 T with
    | some f=>match P.underlying e with
     | some (.int .u8)=>if Qucw P C s T then some ⟨true,.str ((xs.map f).map fun n=>UInt8.ofNat n.toNat),[],rd⟩ else none
     | _=>none
    | none=>none
   | none=>none
  | _,_,_=>none
 | .makeFunc f first caps=>if first.size = 0 then okr (.fn f (caps.toList.map (evalO tm))) else none
 | .slice t x lo hi none=>Qkrz P C tm hp t (evalO tm x) lo hi
 | .fieldAddr t x f=>match Q9oq P t f with
  | some (_,off)=>match evalO tm x with
   | .ptr r o'=>okr (.ptr r (o' + off))
   | .eptr r p v w i j=>okr (.eptr r p v w i (j + off))
   | .rop cs o'=>okr (.rop cs (o' + off))
   | _=>none
  | none=>none
 | .field t x f=>match Q9oq P t f with
  | some (ft,off)=>match evalO tm x with
   | .agg cs=>match partA P ft cs off with
    | some v=>okr v
    | none=>none
   | _=>none
  | none=>none
 | .indexAddr t x i=>match asI (evalO tm i) with
  | some n=>Qqui P C hp t (evalO tm x) n
  | none=>none
 | .index t x i=>match asI (evalO tm i),evalO tm x with
  | some n,.str s=>if isStr P t then some ⟨inb n s.length,.int .u8 ((s.getD n.toNat 0).toNat : Int),[],[]⟩ else none
  | some n,.agg cs=>match P.underlying t with
   | some (.array len e)=>match szOf P e with
    | some (_,sz)=>match partA P e cs (n.toNat * sz) with
     | some v=>some ⟨inb n len,v,[],[]⟩
     | none=>none
    | none=>none
   | _=>none
  | _,_=>none
 | .extract t i=>match evalO tm t with
  | .tup vs=>match vs[i]? with
   | some v=>okr v
   | none=>none
  | _=>none
 | .call c=>match c.callee with
  | .builtin b=>Q3m4 P C b c.argTypes (c.args.toList.map (evalO tm)) fresh hp
  | .value f=>match evalO tm f with
   | .fn (.func g) caps=>if dynOk E f g then callA C E g (c.args.toList.map (evalO tm) ++ caps) fresh hp else none
   | _=>none
  | _=>none
 | .makeMap t none=>match mapTy P C t with
  | some (K,V)=>some ⟨true,.mapr fresh,[(fresh,.mp K V [])],[]⟩
  | none=>none
 | .lookup t m k ok=>lookA P C hp t (evalO tm m) (evalO tm k) ok
 | .mapUpdate t m k x=>updM P C hp t (evalO tm m) (evalO tm k) (evalO tm x)
 | .insert t m k x=>updM P C hp t (evalO tm m) (evalO tm k) (evalO tm x)
 | .makeSlice t l c=>makeA P C fresh t (evalO tm l) (evalO tm c)
 | _=>none

def Qojn (E : Tab Ty El) (o : Oper) : Nat :=
 match o.op with
 | .assign _ | .alloc _ | .box .. | .buildSlice .. | .makeMap .. | .makeSlice ..=>1
 | .call c=>match c.callee with
  | .builtin .append=>1
  | .value (.func g)=>match E.find g with
   | some e=>e.need
   | none=>0
  | .value _=>2
  | _=>0
 | _=>0

structure St (Ty : Type) (El : Ty → Type) where
 tm : List (AV Ty El)
 hp : List (AObj Ty El)
def St.tmF (s : St Ty El) (t : Nat) : AV Ty El:=s.tm.getD t .dead
def St.hpF (s : St Ty El) (r : Nat) : AObj Ty El:=s.hp.getD r .gone
def put (tm : List (AV Ty El)) (d : Option Tmp) (v : AV Ty El) : List (AV Ty El):=match d with | some t=>setL tm t v | none=>tm
def setG : List (AObj Ty El) → Nat → AObj Ty El → List (AObj Ty El)
 | [],0,x=>[x]
 | [],n + 1,x=>.gone :: setG [] n x
 | _ :: l,0,x=>x :: l
 | a :: l,n + 1,x=>a :: setG l n x
def puts (hp : List (AObj Ty El)) : List (Nat × AObj Ty El) → List (AObj Ty El)
 | []=>hp
 | (r,o) :: ws=>puts (setG hp r o) ws

inductive Leaf (Ty : Type) (El : Ty → Type)
 | ret (v : AV Ty El) (h : List (AObj Ty El))
 | go (todo : List Item) (vals : List (AV Ty El)) (h : List (AObj Ty El))

structure Log where
 exec : Bool
 rd : List Nat
 wr : List Nat

def Qg3x (P : Program) (C : Cod Ty El) (E : Tab Ty El) (all : List Oper) : List Oper → Nat → St Ty El → List Log → (St Ty El → List Log → Option (Leaf Ty El)) → Option (Leaf Ty El)
 | [],_,s,lg,K=>K s lg.reverse
 | o :: os,fresh,s,lg,K =>
  let step (s : St Ty El) : Option (Leaf Ty El) :=
   match o.op with
   | .pick c a b=>match evalO s.tmF c with
    | .bool t=>ifb t (Qg3x P C E all os fresh { s with tm:=put s.tm o.dst (evalO s.tmF a) } (⟨true,[],[]⟩ :: lg) K)
     (Qg3x P C E all os fresh { s with tm:=put s.tm o.dst (evalO s.tmF b) } (⟨true,[],[]⟩ :: lg) K)
    | _=>none
   | _=>match opF P C E o fresh s.tmF s.hpF with
    | none=>none
    | some r=>ifb r.g (Qg3x P C E all os (fresh + Qojn E o) { tm:=put s.tm o.dst r.v,hp:=puts s.hp r.wr } (⟨true,r.rd,r.wr.map (·.1)⟩ :: lg) K) none
  let skip (s : St Ty El) : Option (Leaf Ty El):=Qg3x P C E all os (fresh + Qojn E o) { s with tm:=put s.tm o.dst Qp2e } (⟨false,[],[]⟩ :: lg) K
  match o.guard with
  | none=>step s
  | some (j,want)=>match all[j]? with
   | none=>none
   | some oj=>match oj.dst with
    | none=>none
    | some d=>match s.tmF d with
     | .bool t=>ifb t (if want then step { s with tm:=setL s.tm d (.bool true) } else skip { s with tm:=setL s.tm d (.bool true) })
      (if want then skip { s with tm:=setL s.tm d (.bool false) } else step { s with tm:=setL s.tm d (.bool false) })
     | .tup []=>skip s
     | _=>none
end
end Lx
namespace Lx
open Go
section
variable {Ty : Type} {El : Ty → Type}

def look {α : Type} : List (Nat × α) → Nat → Option α
  | [], _ => none
  | (a, b) :: l, r => if a = r then some b else look l r

def cur (hp : Nat → AObj Ty El) (r : Nat) (p : Path) (v : Nat) : Bool :=
  match hp r with
  | .row _ _ d vr vn m => match m with
    | .no => match p with
      | [] => v == vr
      | _ => v == vn && decide (p.length ≤ d)
    | _ => false
  | _ => false

def shsOf : Sh Ty → List (Sh Ty)
  | .agg l => l
  | _ => []
structure Shd (Ty : Type) (El : Ty → Type) where
  new : List (AObj Ty El)
  bx : List (Nat × AObj Ty El)
  fz : List Nat

mutual
def Qbh0 (C : Cod Ty El) (hp : Nat → AObj Ty El) (base : Nat) : Nat → Sh Ty → AV Ty El → Shd Ty El → Option (AV Ty El × Shd Ty El)
  | 0, _, _, _ => none
  | n + 1, sh, v, c =>
    match v with
    | .own r p ver => match sh with
      | .ro T => match rowAt C hp r p ver with
        | some R => match castL C R.T T R.xs with
          | some ys => some (.sl T ys, { c with fz := r :: c.fz })
          | none => none
        | none => none
      | _ => some (.own r p ver, c)
    | .view r p ver w lo m => match sh with
      | .ro T => match rowAt C hp r p ver with
        | some R => if w = (C.row R.T (C.dflt R.T)).length then match castL C R.T T ((R.xs.drop lo).take m) with
            | some ys => some (.sl T ys, { c with fz := r :: c.fz })
            | none => none
          else none
        | none => none
      | _ => some (.view r p ver w lo m, c)
    | .nils => match sh with
      | .ro T => some (.sl T [], c)
      | .own T => some (.own (base + c.new.length) [] 0, { c with new := c.new ++ [.row T [] (C.hgt T) 0 0 .no] })
      | _ => some (.nils, c)
    | .ptr r off => match sh with
      | .box l => match hp r with
        | .box cs => if (c.bx.map (·.1)).contains r then some (.ptr r off, c) else match Q5nn C hp base n l cs c with
          | some (ds, c') => some (.ptr r off, { c' with bx := (r, .box ds) :: c'.bx })
          | none => none
        | _ => none
      | _ => some (.ptr r off, c)
    | .agg cs => match Q5nn C hp base n (shsOf sh) cs c with
      | some (ds, c') => some (.agg ds, c')
      | none => none
    | .tup cs => match Q5nn C hp base n (shsOf sh) cs c with
      | some (ds, c') => some (.tup ds, c')
      | none => none
    | v => some (v, c)
def Q5nn (C : Cod Ty El) (hp : Nat → AObj Ty El) (base : Nat) : Nat → List (Sh Ty) → List (AV Ty El) → Shd Ty El → Option (List (AV Ty El) × Shd Ty El)
  | 0, _, _, _ => none
  | n + 1, shs, vs, c =>
    match vs with
    | [] => some ([], c)
    | v :: vs => match Qbh0 C hp base n (shs.headD .any) v c with
      | some (x, c') => match Q5nn C hp base n shs.tail vs c' with
        | some (xs, c'') => some (x :: xs, c'')
        | none => none
      | none => none
end

def visit (hp : Nat → AObj Ty El) : Nat → List (AV Ty El) → List Nat → Option (List Nat)
  | 0, _, _ => none
  | n + 1, l, ns => match l with
    | [] => some ns
    | v :: vs => match v with
      | .own r p ver => if cur hp r p ver = true ∧ ns.contains r = false then visit hp n vs (ns ++ [r]) else visit hp n vs ns
      | .view r p ver _ _ _ => if cur hp r p ver = true ∧ ns.contains r = false then visit hp n vs (ns ++ [r]) else visit hp n vs ns
      | .eptr r p ver _ _ _ => if cur hp r p ver = true ∧ ns.contains r = false then visit hp n vs (ns ++ [r]) else visit hp n vs ns
      | .ptr r _ => if ns.contains r = true then visit hp n vs ns else match hp r with
        | .box cs => visit hp n (cs ++ vs) (ns ++ [r])
        | _ => none
      | .mapr r => if ns.contains r = true then visit hp n vs ns else visit hp n vs (ns ++ [r])
      | .agg cs => visit hp n (cs ++ vs) ns
      | .tup cs => visit hp n (cs ++ vs) ns
      | .fn _ cs => visit hp n (cs ++ vs) ns
      | _ => visit hp n vs ns

def renC (hp : Nat → AObj Ty El) (f : Nat → Option Nat) : Nat → AV Ty El → Option (AV Ty El)
  | 0, _ => none
  | n + 1, v => match v with
    | .own r p ver => if cur hp r p ver = true then match f r with
        | some k => some (.own k p 0)
        | none => none
      else some .dead
    | .view r p ver w lo m => if cur hp r p ver = true then match f r with
        | some k => some (.view k p 0 w lo m)
        | none => none
      else some .dead
    | .eptr r p ver w i j => if cur hp r p ver = true then match f r with
        | some k => some (.eptr k p 0 w i j)
        | none => none
      else some .dead
    | .ptr r off => match hp r with
      | .box _ => match f r with
        | some k => some (.ptr k off)
        | none => none
      | _ => some .dead
    | .mapr r => match hp r with
      | .mp .. => match f r with
        | some k => some (.mapr k)
        | none => none
      | _ => some .dead
    | .agg cs => match omap (renC hp f n) cs with
      | some ds => some (.agg ds)
      | none => none
    | .tup cs => match omap (renC hp f n) cs with
      | some ds => some (.tup ds)
      | none => none
    | .fn g cs => match omap (renC hp f n) cs with
      | some ds => some (.fn g ds)
      | none => none
    | v => if rf 4 v then some v else none

def Q049 (hp : Nat → AObj Ty El) (f : Nat → Option Nat) (r : Nat) : Option (AObj Ty El) :=
  match hp r with
  | .box cs => match omap (renC hp f 4) cs with
    | some ds => some (.box ds)
    | none => none
  | .row T xs d _ _ m => match m with
    | .no => some (.row T xs d 0 0 .no)
    | _ => none
  | .mp K V es => some (.mp K V es)
  | _ => none

def stays (hp : Nat → AObj Ty El) (r : Nat) : Bool :=
  match hp r with
  | .box _ => true
  | .row _ _ _ vr _ _ => vr == 0
  | _ => false
def Qv4t (hp : Nat → AObj Ty El) (r : Nat) : List (AV Ty El) :=
  match hp r with
  | .box cs => cs
  | _ => []

def idxO (r : Nat) : List (Option Nat) → Nat → Option Nat
  | [], _ => none
  | a :: l, k => if a = some r then some k else idxO r l (k + 1)

def laid (hp : Nat → AObj Ty El) (base : Nat) (c : Shd Ty El) : Nat → AObj Ty El := fun r =>
  match look c.bx r with
  | some o => o
  | none => if r < base then hp r else c.new.getD (r - base) .gone

def Qn4s (C : Cod Ty El) (hp0 : Nat → AObj Ty El) (base m : Nat) (shs : List (Sh Ty)) (vs0 : List (AV Ty El)) : Option (List (AV Ty El) × List (AObj Ty El)) :=
  match Q5nn C hp0 base 40 shs vs0 ⟨[], [], []⟩ with
  | none => none
  | some (vs, c) =>
    let hp := laid hp0 base c
    let ins := (List.range m).filter (fun r => stays hp r && !c.fz.contains r)
    match visit hp 1000 (ins.flatMap (Qv4t hp) ++ vs) ins with
    | none => none
    | some ns =>
      let tab := (List.range m).map (fun r => if (stays hp r && !c.fz.contains r) then some r else none) ++ (ns.drop ins.length).map some
      match omap (renC hp (fun r => idxO r tab 0) 6) vs, omap (fun o => match o with | some r => Q049 hp (fun r => idxO r tab 0) r | none => some .out) tab with
      | some xs, some os => if c.fz.all (fun r => (idxO r tab 0).isNone) = true then some (xs, os) else none
      | _, _ => none

structure RE (Ty : Type) (El : Ty → Type) where
  P : Program
  C : Cod Ty El
  E : Tab Ty El
  fn : Func
  m : Nat
  rsh : List (Sh Ty)
  cuts : List (Nat × List (Nat × Sh Ty))

def cutAt : List (Nat × List (Nat × Sh Ty)) → Nat → Option (List (Nat × Sh Ty))
  | [], _ => none
  | (a, b) :: l, r => if a = r then some b else cutAt l r

def Qhxb (R : RE Ty El) (s : St Ty El) : List ResultVar → Option (List (AV Ty El))
  | [] => some []
  | .tmp t :: l => match Qhxb R s l with
    | some vs => some (s.tmF t :: vs)
    | none => none
  | .cell a t :: l => match loadA R.P R.C s.hpF t (s.tmF a) with
    | some (v, _) => match Qhxb R s l with
      | some vs => some (v :: vs)
      | none => none
    | none => none
def one : List (AV Ty El) → AV Ty El
  | [v] => v
  | vs => .tup vs

def Q2hy (R : RE Ty El) (s : St Ty El) : Option (Leaf Ty El) :=
  match Qhxb R s R.fn.results.toList with
  | none => none
  | some vs => match Qn4s R.C s.hpF s.hp.length R.m R.rsh vs with
    | some (xs, h) => some (.ret (one xs) h)
    | none => none
def Qzwk (R : RE Ty El) (live : List (Nat × Sh Ty)) (todo : List Item) (s : St Ty El) : Option (Leaf Ty El) :=
  match Qn4s R.C s.hpF s.hp.length R.m (live.map (·.2)) (live.map fun p => s.tmF p.1) with
  | some (xs, h) => some (.go todo xs h)
  | none => none

def ancOf (acc : List Nat) : List Edge → Nat
  | [] => 0
  | e :: es => if Region.binds .any e then (2 ^ e.on ||| acc.getD e.on 0) ||| ancOf acc es else ancOf acc es
def ancs : List Oper → List Nat → List Nat
  | [], acc => acc
  | o :: os, acc => ancs os (acc ++ [ancOf acc o.after.toList])
def looks (all : List Oper) (o : Oper) : List Tmp :=
  (o.op.operands.toList.filterMap fun | .tmp t => some t | _ => none) ++
  (match o.guard with
   | some (g, _) => (match all[g]? with | some og => og.dst.toList | none => [])
   | none => [])
def disj (a b : List Nat) : Bool := a.all fun x => !b.contains x
def Qtsj (all : List Oper) (x y : Oper) (lx ly : Log) : Bool :=
  disj x.dst.toList (looks all y) && (disj x.dst.toList y.dst.toList && (disj y.dst.toList (looks all x) && (disj lx.wr ly.rd && (disj lx.wr ly.wr && disj ly.wr lx.rd))))
def pairs (all : List Oper) (an : Nat) (y : Oper) (ly : Log) : List (Oper × Log) → Nat → Bool
  | [], _ => true
  | (x, lx) :: l, i => (an.testBit i || Qtsj all x y lx ly) && pairs all an y ly l (i + 1)
def Q2hn (all : List Oper) (an : List Nat) : List (Oper × Log) → List (Oper × Log) → Nat → Bool
  | _, [], _ => true
  | done, (y, ly) :: l, j => pairs all (an.getD j 0) y ly done 0 && Q2hn all an (done ++ [(y, ly)]) l (j + 1)
def Qy11 : List Oper → Nat → Bool
  | [], _ => true
  | o :: os, i => o.after.toList.all (fun e => !Region.binds .any e || decide (e.on < i)) && Qy11 os (i + 1)
def Qsf9 (ops : List Oper) (lg : List Log) : Bool :=
  decide (lg.length = ops.length) && (Qy11 ops 0 && Q2hn ops (ancs ops []) [] (ops.zip lg) 0)

def aRun (R : RE Ty El) : Nat → Bool → List Item → St Ty El → Option (Leaf Ty El)
  | 0, _, _, _ => none
  | n + 1, first, todo, s =>
    match todo with
    | [] => Q2hy R s
    | .code c :: k => match c with
      | .skip => aRun R n first k s
      | .label _ => aRun R n first k s
      | .region id ops draw =>
        match (if first then none else cutAt R.cuts id) with
        | some live => Qzwk R live (.code (.region id ops draw) :: k) s
        | none => Qg3x R.P R.C R.E ops.toList ops.toList s.hp.length s [] fun s lg =>
            if draw then (if Qsf9 ops.toList lg then aRun R n false k s else none) else aRun R n false k s
      | .seq x y => aRun R n first (.code x :: .code y :: k) s
      | .cond c x y => match evalO s.tmF c with
        | .bool t => ifb t (aRun R n first (.code x :: k) s) (aRun R n first (.code y :: k) s)
        | _ => none
      | .block id c => aRun R n first (.code c :: .inBlock id :: k) s
      | .loop c => aRun R n first (.code c :: .inLoop c :: k) s
      | .exit id => match exitTo id k with
        | some k' => aRun R n first k' s
        | none => none
      | .ret => Q2hy R s
      | _ => none
    | .inBlock _ :: k => aRun R n first k s
    | .inLoop c :: k => aRun R n first (.code c :: .inLoop c :: k) s
    | _ => none

def Q4gm (fn : Func) (args : List (AV Ty El)) (h : List (AObj Ty El)) : St Ty El :=
  ⟨args ++ List.replicate (fn.ntmps - args.length) Qp2e, h⟩
def Qd6c (tm : List (AV Ty El)) : List (Nat × Sh Ty) → List (AV Ty El) → List (AV Ty El)
  | (t, _) :: ls, v :: vs => Qd6c (setL tm t v) ls vs
  | _, _ => tm
def cutSt (fn : Func) (live : List (Nat × Sh Ty)) (vals : List (AV Ty El)) (h : List (AObj Ty El)) : St Ty El :=
  ⟨Qd6c (List.replicate fn.ntmps .dead) live vals, h⟩

def Qhb6 (id : Nat) : Code → List Item → Option (List Item)
  | .region i ops d, k => if i = id then some (.code (.region i ops d) :: k) else none
  | .seq a b, k => match Qhb6 id a (.code b :: k) with
    | some t => some t
    | none => Qhb6 id b k
  | .cond _ a b, k => match Qhb6 id a k with
    | some t => some t
    | none => Qhb6 id b k
  | .block i c, k => Qhb6 id c (.inBlock i :: k)
  | .loop c, k => Qhb6 id c (.inLoop c :: k)
  | _, _ => none
def Qu6t (fn : Func) (id : Nat) : List Item := match fn.body with
  | some c => match Qhb6 id c [] with
    | some t => t
    | none => []
  | none => []
def body0 (fn : Func) : List Item := match fn.body with
  | some c => [.code c]
  | none => []
end
end Lx
set_option linter.unusedSimpArgs false
namespace Lx
open Go
section
variable {Ty : Type} {El : Ty → Type}

def Qvgi : AV Ty El → Bool
 | .int .. | .bool .. | .str .. | .sl ..=>true
 | _=>false
def Cod.sz (C : Cod Ty El) (T : Ty) : Nat:=(C.row T (C.dflt T)).length
structure Nm where
 ν : Nat → Value
 F : Nat → Nat → Prop
 G : Nat → Path → Nat → Value → Prop
 ro : Nat → Prop

inductive RepA (C : Cod Ty El) (N : Nm) (w : World) : Value → AV Ty El → Prop
 | int (k : IntKind) (n : Int) : RepA C N w (.int k n) (.int k n)
 | bool (b : Bool) : RepA C N w (.bool b) (.bool b)
 | str (s : ByteArray) (l : List UInt8) (h : s.data.toList = l) : RepA C N w (.string s) (.str l)
 | sl0 (T : Ty) (a : Option Addr) (cap : Nat) : RepA C N w (.slice a 0 cap) (.sl T [])
 | sl (T : Ty) (xs : List (El T)) (b o n cap : Nat) (f : Nat → Nat → Value) (hn : n = xs.length) (hc : n ≤ cap) (hro : N.ro b)
   (hcell : ∀ i j,i < n → j < C.sz T → w.cell? ⟨b,o + (i * C.sz T + j),none⟩ = some (f i j))
   (hrep : ∀ i j c,i < n → (C.row T (xs.getD i (C.dflt T)))[j]? = some c → RepA C N w (f i j) c) :
   RepA C N w (.slice (some ⟨b,o,none⟩) n cap) (.sl T xs)
 | nils : RepA C N w (.slice none 0 0) .nils
 | own (r : Nat) (p : Path) (v : Nat) (u : Value) (h : N.G r p v u) : RepA C N w u (.own r p v)
 | view (r : Nat) (p : Path) (v wd lo m n cap : Nat) (a : Option Addr) (h : N.G r p v (.slice a n cap)) (hb : lo + m ≤ n) :
   RepA C N w (.slice (if cap = lo then a else a.map (·.add (lo * wd))) m (cap - lo)) (.view r p v wd lo m)
 | ptr (r b off : Nat) (h : N.G r [] 0 (.pointer (some ⟨b,0,none⟩))) : RepA C N w (.pointer (some ⟨b,off,none⟩)) (.ptr r off)
 | eptr (r : Nat) (p : Path) (v wd i j b n cap : Nat) (h : N.G r p v (.slice (some ⟨b,0,none⟩) n cap)) (hi : i < n) :
   RepA C N w (.pointer (some ⟨b,i * wd + j,none⟩)) (.eptr r p v wd i j)
 | rop (cs : List (AV Ty El)) (b o off : Nat) (f : Nat → Value) (hro : N.ro b)
   (hcell : ∀ j,j < cs.length → w.cell? ⟨b,o + j,none⟩ = some (f j)) (hrep : ∀ j c,cs[j]? = some c → RepA C N w (f j) c) :
   RepA C N w (.pointer (some ⟨b,o + off,none⟩)) (.rop cs off)
 | nilp : RepA C N w (.pointer none) .nilp
 | mapr (r b : Nat) (h : N.G r [] 0 (.map (some b))) : RepA C N w (.map (some b)) (.mapr r)
 | agg (vs : Array Value) (cs : List (AV Ty El)) (hl : vs.size = cs.length) (h : ∀ (j : Nat) v c,vs[j]? = some v → cs[j]? = some c → RepA C N w v c) : RepA C N w (.agg vs) (.agg cs)
 | tup (vs : Array Value) (cs : List (AV Ty El)) (hl : vs.size = cs.length) (h : ∀ (j : Nat) v c,vs[j]? = some v → cs[j]? = some c → RepA C N w v c) : RepA C N w (.tuple vs) (.tup cs)
 | fn (f : Fn) (vs : Array Value) (cs : List (AV Ty El)) (hl : vs.size = cs.length) (h : ∀ (j : Nat) v c,vs[j]? = some v → cs[j]? = some c → RepA C N w v c) : RepA C N w (.func f #[] vs) (.fn f cs)
 | dead (v : Value) : RepA C N w v .dead

def zcell : Value → AV Ty El → Bool
 | .int k n,.int k' n'=>decide (k = k') && decide (n = n')
 | .bool b,.bool b'=>b == b'
 | .string s,.str l=>s.data.toList == l
 | .slice none 0 0,.sl _ xs=>xs.isEmpty
 | _,_=>false
def zOk : List Value → List (AV Ty El) → Bool
 | [],[]=>true
 | v :: vs,c :: cs=>zcell v c && zOk vs cs
 | _,_=>false
structure KeyOK (P : Program) (C : Cod Ty El) (e : TypeId) (K : Ty) : Prop where
 refl : ∀ x,C.keq K x x = true
 check : ∀ (w : World) (N : Nm) (em : Bool) (x : El K) (v : Value),RepA C N w v (packA C K (C.row K x)) → (Instr.checkKey em 10000 e v).run P w = .ok () w
 find : ∀ (w : World) (N : Nm) (x : El K) (v : Value),RepA C N w v (packA C K (C.row K x)) → ∀ (es : List MapEntry) (ys : List (El K)),es.length = ys.length → (∀ (j : Nat) (a : MapEntry) y,es[j]? = some a → ys[j]? = some y → RepA C N w a.key (packA C K (C.row K y))) →
  (Instr.findKey e v es).run P w = .ok ((ys.findIdx? (C.keq K x)).bind fun i=>(es[i]?).map fun a=>(i,a.val)) w
 stays : ∀ (w : World) (N : Nm) (x y : El K) (u v : Value),RepA C N w u (packA C K (C.row K y)) → RepA C N w v (packA C K (C.row K x)) → C.keq K x y = true → (Instr.keyThatStays u v).run P w = .ok v w

structure CodOK (P : Program) (C : Cod Ty El) : Prop where
 len : ∀ T x,(C.row T x).length = C.sz T
 pos : ∀ T,0 < C.sz T
 cell : ∀ T x c,c ∈ C.row T x → Qvgi c = true
 unrow : ∀ T L x,C.unrow T L = some x → C.row T x = L
 hgt : ∀ T x U zs,.sl U zs ∈ C.row T x → C.hgt U < C.hgt T
 info : ∀ e T,C.ty e = some T → ∃ i z,P.info? e = some i ∧ i.size = C.sz T ∧ i.zero = some z ∧ z.cells.size = C.sz T ∧ 0 < i.bytes
 inj : ∀ e e' T,C.ty e = some T → C.ty e' = some T → e = e'
 u8 : ∀ T f,C.u8 T = some f → ∀ x,C.row T x = [.int .u8 (f x)]
 typ : ∀ T,∃ e,C.ty e = some T
 u80 : ∀ T f,C.u8 T = some f → C.hgt T = 0
 zero : ∀ e T,C.ty e = some T → ∃ i z,P.info? e = some i ∧ i.zero = some z ∧ zOk z.cells.toList (C.row T (C.dflt T)) = true ∧ isB z = C.agg T ∧ (isB z = false → z.cells = #[z])
 agg : ∀ T,C.agg T = false → C.sz T = 1
 keyd : ∀ e K,C.ty e = some K → C.key K = true → KeyOK P C e K

theorem Q9r2 {w w' : World} {b o : Nat} (h : w'.heap[b]? = w.heap[b]?) : w'.cell? ⟨b,o,none⟩ = w.cell? ⟨b,o,none⟩:=by simp [World.cell?,h]

structure Le (N N' : Nm) (w w' : World) : Prop where
 G : ∀ r p v u,N.G r p v u → N'.G r p v u
 ro : ∀ b,N.ro b → N'.ro b
 mem : ∀ b,N.ro b → w'.heap[b]? = w.heap[b]?
theorem Le.rfl' {N : Nm} {w : World} : Le N N w w:=⟨fun _ _ _ _ h=>h,fun _ h=>h,fun _ _=>rfl⟩

theorem RepA.mono {C : Cod Ty El} {N N' : Nm} {w w' : World} (hL : Le N N' w w') {v : Value} {x : AV Ty El} (h : RepA C N w v x) : RepA C N' w' v x:=by
 induction h with
 | int k n=>exact .int k n
 | bool b=>exact .bool b
 | str s l h=>exact .str s l h
 | sl0 T a cap=>exact .sl0 T a cap
 | sl T xs b o n cap f hn hc hr hcell _ ih =>
  exact .sl T xs b o n cap f hn hc (hL.ro b hr) (fun i j hi hj=>(Q9r2 (hL.mem b hr)).trans (hcell i j hi hj)) ih
 | nils=>exact .nils
 | own r p v u h=>exact .own r p v u (hL.G _ _ _ _ h)
 | view r p v wd lo m n cap a h hb=>exact .view r p v wd lo m n cap a (hL.G _ _ _ _ h) hb
 | ptr r b off h=>exact .ptr r b off (hL.G _ _ _ _ h)
 | eptr r p v wd i j b n cap h hi=>exact .eptr r p v wd i j b n cap (hL.G _ _ _ _ h) hi
 | rop cs b o off f hr hcell _ ih=>exact .rop cs b o off f (hL.ro b hr) (fun j hj=>(Q9r2 (hL.mem b hr)).trans (hcell j hj)) ih
 | nilp=>exact .nilp
 | mapr r b h=>exact .mapr r b (hL.G _ _ _ _ h)
 | agg vs cs hl _ ih=>exact .agg vs cs hl ih
 | tup vs cs hl _ ih=>exact .tup vs cs hl ih
 | fn f vs cs hl _ ih=>exact .fn f vs cs hl ih
 | dead v=>exact .dead v

structure RowI (C : Cod Ty El) (w : World) (K : Nat → Nat → Value → AV Ty El → (Nat → Prop) → Prop) (B : Nat → Prop) (v : Value) (S : Ty) (ys : List (El S)) (e : TypeId) (cells : List Value) (Fs : Nat → Nat → Nat → Prop) : Prop where
 ty : C.ty e = some S
 own : w.ownsRow 0 e (C.sz S) v ys.length cells
 one : ∀ u ∈ cells,u.oneCell' = true
 blk : ∀ b,B b ↔ v.ownBlock = some b ∨ ∃ i j,i < ys.length ∧ j < C.sz S ∧ Fs i j b
 sep0 : ∀ i j b,i < ys.length → j < C.sz S → Fs i j b → v.ownBlock ≠ some b
 sep : ∀ i j i' j' b,i < ys.length → j < C.sz S → i' < ys.length → j' < C.sz S → Fs i j b → Fs i' j' b → i = i' ∧ j = j'
 cell : ∀ i j c,i < ys.length → (C.row S (ys.getD i (C.dflt S)))[j]? = some c → ∃ u,cells[i * C.sz S + j]? = some u ∧ K i j u c (Fs i j)
def RowD (C : Cod Ty El) (w : World) (K : Nat → Nat → Value → AV Ty El → (Nat → Prop) → Prop) (B : Nat → Prop) (v : Value) (S : Ty) (ys : List (El S)) : Prop:=∃ e cells Fs,RowI C w K B v S ys e cells Fs

def flatK (C : Cod Ty El) (N : Nm) (w : World) (u : Value) (c : AV Ty El) (F : Nat → Prop) : Prop:=RepA C N w u c ∧ ∀ b,¬ F b
def deepK (C : Cod Ty El) (N : Nm) (w : World) (D : (Path → Prop) → (Nat → Prop) → Value → (S : Ty) → List (El S) → Prop) (m : Path → Prop) (i j : Nat) (u : Value) (c : AV Ty El) (F : Nat → Prop) : Prop :=
 match c with
 | .sl U zs=>(m [(i,j)] ∧ ∀ b,¬ F b) ∨ (¬ m [(i,j)] ∧ D (fun q=>m ((i,j) :: q)) F u U zs)
 | c=>flatK C N w u c F
def Deep (C : Cod Ty El) (N : Nm) (w : World) : Nat → (Path → Prop) → (Nat → Prop) → Value → (S : Ty) → List (El S) → Prop
 | 0,_,B,v,S,ys=>RowD C w (fun _ _ u c F=>flatK C N w u c F) B v S ys
 | d + 1,m,B,v,S,ys=>RowD C w (fun i j u c F=>deepK C N w (Deep C N w d) m i j u c F) B v S ys

theorem RowD.mono {P : Program} {C : Cod Ty El} (hC : CodOK P C) {w w' : World} {K K' : Nat → Nat → Value → AV Ty El → (Nat → Prop) → Prop} {B : Nat → Prop} {v : Value} {S : Ty} {ys : List (El S)} (h : RowD C w K B v S ys)
  (hw : ∀ b,B b → w'.heap[b]? = w.heap[b]?) (hK : ∀ i j u c F,(∀ b,F b → B b) → K i j u c F → K' i j u c F) : RowD C w' K' B v S ys:=by
 obtain ⟨e,cells,Fs,h⟩:=h
 refine ⟨e,cells,Fs,h.ty, ?_,h.one,h.blk,h.sep0,h.sep,fun i j c hi hj=>?_⟩
 ·refine ⟨h.own.1, ?_⟩
  rcases h.own.2 with hn | ⟨g,cap,cur,hv,hg,hh,rest⟩
  ·exact .inl hn
  ·exact .inr ⟨g,cap,cur,hv,hg,(hw g ((h.blk g).2 (.inl (by simp [hv,Value.ownBlock])))).trans hh,rest⟩
 ·obtain ⟨u,hu,hk⟩:=h.cell i j c hi hj
  have hjs : j < C.sz S:=by rw [← hC.len S (ys.getD i (C.dflt S))]; exact (List.getElem?_eq_some_iff.1 hj).1
  exact ⟨u,hu,hK i j u c _ (fun b hb=>(h.blk b).2 (.inr ⟨i,j,hi,hjs,hb⟩)) hk⟩

theorem flatK.mono {C : Cod Ty El} {N N' : Nm} {w w' : World} (hL : Le N N' w w') {u : Value} {c : AV Ty El} {F : Nat → Prop} (h : flatK C N w u c F) : flatK C N' w' u c F:=⟨h.1.mono hL,h.2⟩
theorem Deep.mono {P : Program} {C : Cod Ty El} (hC : CodOK P C) {N N' : Nm} {w w' : World} (hL : Le N N' w w') : ∀ (d : Nat) (m : Path → Prop) (B : Nat → Prop) (v : Value) (S : Ty) (ys : List (El S)),Deep C N w d m B v S ys →
  (∀ b,B b → w'.heap[b]? = w.heap[b]?) → Deep C N' w' d m B v S ys
 | 0,m,B,v,S,ys,h,hw=>RowD.mono hC h hw (fun i j u c F _ hk=>hk.mono hL)
 | d + 1,m,B,v,S,ys,h,hw=>RowD.mono hC h hw (fun i j u c F hF hk=>by
   cases c with
   | sl U zs=>exact hk.imp id (fun hk=>⟨hk.1,Deep.mono hC hL d _ F u U zs hk.2 (fun b hb=>hw b (hF b hb))⟩)
   | _=>exact flatK.mono hL hk)

theorem Qmao {w : World} {e : TypeId} {sz n : Nat} {v : Value} {cells : List Value} (h : w.ownsRow 0 e sz v n cells) {b : Nat} (hb : v.ownBlock = some b) : b < w.heap.size:=by
 rcases h.2 with ⟨hv,_⟩ | ⟨g,cap,cur,hv,_,hh,_⟩
 ·rw [hv] at hb; simp [Value.ownBlock] at hb
 ·rw [hv] at hb
  have : g = b:=by simpa [Value.ownBlock] using hb
  subst this
  exact (Array.getElem?_eq_some_iff.1 hh).1

theorem RowI.sz {P : Program} {C : Cod Ty El} (hC : CodOK P C) {S : Ty} {y : El S} {j : Nat} {c : AV Ty El} (hj : (C.row S y)[j]? = some c) : j < C.sz S:=by rw [← hC.len S y]; exact (List.getElem?_eq_some_iff.1 hj).1
theorem RowI.getc {P : Program} {C : Cod Ty El} (hC : CodOK P C) {S : Ty} (y : El S) {j : Nat} (hj : j < C.sz S) : ∃ c,(C.row S y)[j]? = some c:=⟨_,List.getElem?_eq_getElem (by rw [hC.len]; exact hj)⟩

theorem Deep.lt {P : Program} {C : Cod Ty El} (hC : CodOK P C) {N : Nm} {w : World} : ∀ (d : Nat) (m : Path → Prop) (B : Nat → Prop) (v : Value) (S : Ty) (ys : List (El S)),Deep C N w d m B v S ys → ∀ b,B b → b < w.heap.size
 | 0,m,B,v,S,ys,h,b,hb=>by
  obtain ⟨e,cells,Fs,h⟩:=h
  rcases (h.blk b).1 hb with h1 | ⟨i,j,hi,hj,hf⟩
  ·exact Qmao h.own h1
  ·obtain ⟨c,hc⟩:=RowI.getc hC (ys.getD i (C.dflt S)) hj
   obtain ⟨u,_,hk⟩:=h.cell i j c hi hc
   exact absurd hf (hk.2 b)
 | d + 1,m,B,v,S,ys,h,b,hb=>by
  obtain ⟨e,cells,Fs,h⟩:=h
  rcases (h.blk b).1 hb with h1 | ⟨i,j,hi,hj,hf⟩
  ·exact Qmao h.own h1
  ·obtain ⟨c,hc⟩:=RowI.getc hC (ys.getD i (C.dflt S)) hj
   obtain ⟨u,_,hk⟩:=h.cell i j c hi hc
   cases c with
   | sl U zs =>
    rcases hk with hk | hk
    ·exact absurd hf (hk.2 b)
    ·exact Deep.lt hC d _ _ _ _ _ hk.2 b hf
   | _=>exact absurd hf (hk.2 b)

def mskP : Msk → Path → Prop
 | .no=>fun _=>False
 | .hole q=>fun p=>p = q
def mskNo : Path → Prop:=fun _=>False

def ObjOK (C : Cod Ty El) (N : Nm) (w : World) (r : Nat) : AObj Ty El → Prop
 | .box cs=>∃ b arr t,N.ν r = .pointer (some ⟨b,0,none⟩) ∧ w.heap[b]? = some (.cells arr t (0,0)) ∧ arr.size = cs.length ∧
   (∀ v ∈ arr,v.oneCell' = true) ∧ (∀ (j : Nat) v c,arr[j]? = some v → cs[j]? = some c → RepA C N w v c) ∧ ∀ b',N.F r b' ↔ b' = b
 | .row T xs d vr vn m=>(N.ν r).oneCell' = true ∧ Deep C N w d (mskP m) (N.F r) (N.ν r) T xs
 | .mp K V es=>∃ b arr clk,N.ν r = .map (some b) ∧ w.heap[b]? = some (.map arr clk) ∧ arr.size = es.length ∧
   (∀ (j : Nat) (e : MapEntry) p,arr[j]? = some e → es[j]? = some p → RepA C N w e.key (packA C K (C.row K p.1)) ∧ RepA C N w e.val (packA C V (C.row V p.2))) ∧ ∀ b',N.F r b' ↔ b' = b
 | .gone=>∀ b,¬ N.F r b
 | .out=>∀ b,¬ N.F r b

def hdr (C : Cod Ty El) (w : World) : (T : Ty) → List (El T) → Value → Path → Option Value
 | _,_,h,[]=>some h
 | T,xs,h,(i,j) :: p=>match h with
  | .slice (some a) _ _=>if i < xs.length then match (C.row T (xs.getD i (C.dflt T)))[j]? with
    | some (.sl S ys)=>match w.cell? ⟨a.block,i * C.sz T + j,none⟩ with
     | some u=>hdr C w S ys u p
     | none=>none
    | _=>none
   else none
  | _=>none

def refOK (C : Cod Ty El) (w : World) (ν : Value) (p : Path) (v : Nat) (u : Value) : AObj Ty El → Prop
 | .gone=>False
 | .out=>True
 | .box _=>p = [] → v = 0 → u = ν
 | .mp ..=>p = [] → v = 0 → u = ν
 | .row T xs d vr vn m=>match p with
  | []=>v ≤ vr ∧ (v = vr → u = ν)
  | _=>v ≤ vn ∧ (m = .no → v = vn → p.length ≤ d → hdr C w T xs ν p = some u)
def Qamb (C : Cod Ty El) (N : Nm) (w : World) (r : Nat) : AObj Ty El → Prop
 | .box _=>N.G r [] 0 (N.ν r)
 | .mp ..=>N.G r [] 0 (N.ν r)
 | .row T xs d vr vn m=>N.G r [] vr (N.ν r) ∧ ∀ p u,p ≠ [] → p.length ≤ d → m = .no → hdr C w T xs (N.ν r) p = some u → N.G r p vn u
 | _=>True

structure HR (C : Cod Ty El) (N : Nm) (hp : Nat → AObj Ty El) (w : World) : Prop where
 obj : ∀ r,ObjOK C N w r (hp r)
 reg : ∀ r p v u,N.G r p v u → refOK C w (N.ν r) p v u (hp r)
 full : ∀ r,Qamb C N w r (hp r)
 one : ∀ r p v u,N.G r p v u → u.oneCell' = true
 dist : ∀ r r' b,N.F r b → N.F r' b → r = r'
 roNot : ∀ r b,N.F r b → ¬ N.ro b
 roLt : ∀ b,N.ro b → b < w.heap.size

theorem ObjOK.lt {P : Program} {C : Cod Ty El} (hC : CodOK P C) {N : Nm} {w : World} {r b : Nat} {o : AObj Ty El} (h : ObjOK C N w r o) (hb : N.F r b) : b < w.heap.size:=by
 cases o with
 | box cs =>
  obtain ⟨b',arr,t,hv,hh,_,_,_,hF⟩:=h
  have:=(hF b).1 hb
  subst this
  exact (Array.getElem?_eq_some_iff.1 hh).1
 | mp K V es =>
  obtain ⟨b',arr,clk,hv,hh,_,_,hF⟩:=h
  have:=(hF b).1 hb
  subst this
  exact (Array.getElem?_eq_some_iff.1 hh).1
 | row T xs d vr vn m=>exact Deep.lt hC _ _ _ _ _ _ h.2 b hb
 | gone=>exact absurd hb (h b)
 | out=>exact absurd hb (h b)

structure SameN (N N' : Nm) (r : Nat) : Prop where
 ν : N'.ν r = N.ν r
 F : ∀ b,N'.F r b ↔ N.F r b
 G : ∀ p v u,N'.G r p v u ↔ N.G r p v u

theorem Deep.blkIff {C : Cod Ty El} {N : Nm} {w : World} {B B' : Nat → Prop} (hB : ∀ b,B' b ↔ B b) : ∀ {d : Nat} {m : Path → Prop} {v : Value} {S : Ty} {ys : List (El S)},Deep C N w d m B v S ys → Deep C N w d m B' v S ys:=by
 have : B' = B:=funext fun b=>propext (hB b)
 subst this
 intro d m v S ys h
 exact h

theorem ObjOK.mono {P : Program} {C : Cod Ty El} (hC : CodOK P C) {N N' : Nm} {w w' : World} {r : Nat} {o : AObj Ty El} (h : ObjOK C N w r o) (hL : Le N N' w w') (hs : SameN N N' r)
  (hb : ∀ b,N.F r b → w'.heap[b]? = w.heap[b]?) : ObjOK C N' w' r o:=by
 cases o with
 | box cs =>
  obtain ⟨b,arr,t,hv,hh,hsz,h1,hc,hF⟩:=h
  exact ⟨b,arr,t,hs.ν.trans hv,(hb b ((hF b).2 rfl)).trans hh,hsz,h1,fun j v c hj hc'=>(hc j v c hj hc').mono hL,fun b'=>(hs.F b').trans (hF b')⟩
 | mp K V es =>
  obtain ⟨b,arr,clk,hv,hh,hsz,hc,hF⟩:=h
  exact ⟨b,arr,clk,hs.ν.trans hv,(hb b ((hF b).2 rfl)).trans hh,hsz,fun j e p hj hp=>⟨((hc j e p hj hp).1).mono hL,((hc j e p hj hp).2).mono hL⟩,fun b'=>(hs.F b').trans (hF b')⟩
 | row T xs d vr vn m =>
  refine ⟨by rw [hs.ν]; exact h.1, ?_⟩
  rw [hs.ν]
  exact Deep.blkIff hs.F (Deep.mono hC hL d _ _ _ _ _ h.2 hb)
 | gone=>exact fun b hb'=>h b ((hs.F b).1 hb')
 | out=>exact fun b hb'=>h b ((hs.F b).1 hb')

theorem Qedy {P : Program} {C : Cod Ty El} (hC : CodOK P C) {N : Nm} {w w' : World} : ∀ (p : Path) (d : Nat) (m : Path → Prop) (B : Nat → Prop) (v : Value) (S : Ty) (ys : List (El S)),Deep C N w d m B v S ys → (∀ q,¬ m q) → p.length ≤ d →
  (∀ b,B b → w'.heap[b]? = w.heap[b]?) → hdr C w' S ys v p = hdr C w S ys v p
 | [],d,m,B,v,S,ys,h,hm,hp,hw=>by cases v <;> rfl
 | (i,j) :: p,0,m,B,v,S,ys,h,hm,hp,hw=>by simp at hp
 | (i,j) :: p,d + 1,m,B,v,S,ys,h,hm,hp,hw=>by
  obtain ⟨e,cells,Fs,h⟩:=h
  unfold hdr
  split
  ·rename_i a n cap
   split
   ·rename_i hi
    have ha : w'.cell? ⟨a.block,i * C.sz S + j,none⟩ = w.cell? ⟨a.block,i * C.sz S + j,none⟩:=Q9r2 (hw _ ((h.blk _).2 (.inl rfl)))
    split
    ·rename_i U zs hc
     rw [ha]
     split
     ·rename_i u hu
      obtain ⟨u',hu',hk⟩:=h.cell i j _ hi hc
      have hjs : j < C.sz S:=RowI.sz hC hc
      have hcell : w.cell? ⟨a.block,i * C.sz S + j,none⟩ = some u':=by
       rcases h.own.2 with ⟨hv,_⟩ | ⟨g,cap',cur,hv,_,hh,hle,_,hsz,htk⟩
       ·cases hv
       ·simp only [Value.slice.injEq,Option.some.injEq] at hv
        obtain ⟨rfl,rfl,rfl⟩:=hv
        have hlt : i * C.sz S + j < ys.length * C.sz S:=by
         have : (i + 1) * C.sz S ≤ ys.length * C.sz S:=Nat.mul_le_mul_right _ hi
         rw [Nat.succ_mul] at this; omega
        rw [← htk,List.getElem?_take_of_lt hlt] at hu'
        simp only [World.cell?,hh]
        simpa using hu'
      rw [hcell] at hu
      simp only [Option.some.injEq] at hu
      subst hu
      rcases hk with hk | hk
      ·exact absurd hk.1 (hm _)
      ·exact Qedy hC p d _ (Fs i j) u' U zs hk.2 (fun q=>hm _) (by simpa using hp) (fun b hb=>hw b ((h.blk b).2 (.inr ⟨i,j,hi,hjs,hb⟩)))
     ·rfl
    ·rfl
   ·rfl
  ·rfl

theorem refOK.mono {P : Program} {C : Cod Ty El} (hC : CodOK P C) {N : Nm} {w w' : World} {r : Nat} {o : AObj Ty El} (ho : ObjOK C N w r o) (hw : ∀ b,N.F r b → w'.heap[b]? = w.heap[b]?) {p : Path} {v : Nat} {u : Value} (h : refOK C w (N.ν r) p v u o) : refOK C w' (N.ν r) p v u o:=by
 cases o with
 | box cs=>exact h
 | mp K V es=>exact h
 | gone=>exact h
 | out=>exact h
 | row T xs d vr vn m =>
  cases p with
  | nil=>exact h
  | cons q p =>
   refine ⟨h.1,fun h1 h2 h3=>?_⟩
   subst h1
   rw [Qedy hC (q :: p) d _ _ _ _ _ ho.2 (fun _ h=>h) h3 hw]
   exact h.2 rfl h2 h3
theorem Qamb.mono {P : Program} {C : Cod Ty El} (hC : CodOK P C) {N N' : Nm} {w w' : World} {r : Nat} {o : AObj Ty El} (ho : ObjOK C N w r o) (hs : SameN N N' r) (hw : ∀ b,N.F r b → w'.heap[b]? = w.heap[b]?) (h : Qamb C N w r o) : Qamb C N' w' r o:=by
 cases o with
 | box cs=>show N'.G r [] 0 (N'.ν r); rw [hs.ν]; exact (hs.G _ _ _).2 h
 | mp K V es=>show N'.G r [] 0 (N'.ν r); rw [hs.ν]; exact (hs.G _ _ _).2 h
 | gone=>trivial
 | out=>trivial
 | row T xs d vr vn m =>
  refine ⟨by rw [hs.ν]; exact (hs.G _ _ _).2 h.1,fun p u h1 h2 h3 h4=>(hs.G _ _ _).2 (h.2 p u h1 h2 h3 ?_)⟩
  subst h3
  rw [hs.ν,Qedy hC p d _ _ _ _ _ ho.2 (fun _ h=>h) h2 hw] at h4
  exact h4

structure Fr (w0 w : World) (mine : Nat → Prop) : Prop where
 os : w.os = w0.os
 tape : w.tape = w0.tape
 output : w.output = w0.output
 size : w0.heap.size ≤ w.heap.size
 block : ∀ b,b < w0.heap.size → ¬ mine b → w.heap[b]? = w0.heap[b]?

structure Cx where
 w0 : World
 mine : Nat → Prop
 m : Nat
 ν0 : Nat → Value
 ro0 : Nat → Prop
 n : Nat

structure SimN (C : Cod Ty El) (X : Cx) (N : Nm) (tm : Nat → AV Ty El) (hp : Nat → AObj Ty El) (a : Act) (w : World) : Prop where
 hr : HR C N hp w
 tmps : ∀ t,t < a.tmps.size → RepA C N w (a.tmps.getD t undef) (tm t)
 size : a.tmps.size = X.n
 defers : a.defers = []
 fr : Fr X.w0 w X.mine
 live : ∀ r b,N.F r b → X.w0.heap.size ≤ b ∨ X.mine b
 io : ∀ k,k < X.m → stays hp k = true → N.ν k = X.ν0 k
 nog : ∀ k,k < X.m → hp k ≠ .gone
 roI : ∀ b,X.ro0 b → N.ro b
 roO : ∀ b,N.ro b → X.ro0 b ∨ X.w0.heap.size ≤ b ∨ X.mine b

end
end Lx
namespace Lx
open Go
section
variable {Ty : Type} {El : Ty → Type} {C : Cod Ty El} {P : Program}

def setH (hp : Nat → AObj Ty El) (r : Nat) (o : AObj Ty El) : Nat → AObj Ty El := fun k => if k = r then o else hp k
def updH (hp : Nat → AObj Ty El) : List (Nat × AObj Ty El) → Nat → AObj Ty El
  | [] => hp
  | (r, o) :: ws => updH (setH hp r o) ws
def updT (n : Nat) (tm : Nat → AV Ty El) (d : Option Tmp) (x : AV Ty El) : Nat → AV Ty El :=
  match d with
  | some d => fun t => if t = d ∧ d < n then x else tm t
  | none => tm
theorem Q3el (hp : Nat → AObj Ty El) (r : Nat) (o : AObj Ty El) : setH hp r o r = o := by simp [setH]
theorem Qte0 (hp : Nat → AObj Ty El) {r k : Nat} (o : AObj Ty El) (h : k ≠ r) : setH hp r o k = hp k := by simp [setH, h]

structure Step (C : Cod Ty El) (S : Nat → Prop) (N N' : Nm) (hp hp' : Nat → AObj Ty El) (w w' : World) : Prop where
  same : ∀ r, ¬ S r → hp' r = hp r ∧ SameN N N' r
  G : ∀ r p v u, N.G r p v u → N'.G r p v u
  ro : ∀ b, N.ro b → N'.ro b
  roO : ∀ b, N'.ro b → N.ro b ∨ w.heap.size ≤ b ∨ ∃ r, S r ∧ N.F r b
  mem : ∀ b, b < w.heap.size → (∀ r, S r → ¬ N.F r b) → w'.heap[b]? = w.heap[b]?
  size : w.heap.size ≤ w'.heap.size
  obj : ∀ r, S r → ObjOK C N' w' r (hp' r)
  reg : ∀ r, S r → ∀ p v u, N'.G r p v u → refOK C w' (N'.ν r) p v u (hp' r)
  full : ∀ r, S r → Qamb C N' w' r (hp' r)
  one : ∀ r, S r → ∀ p v u, N'.G r p v u → u.oneCell' = true
  F : ∀ r b, S r → N'.F r b → (∃ r0, S r0 ∧ N.F r0 b) ∨ w.heap.size ≤ b
  dist : ∀ r r' b, S r → S r' → N'.F r b → N'.F r' b → r = r'
  roS : ∀ r b, S r → N'.F r b → ¬ N'.ro b
  roLt : ∀ b, N'.ro b → b < w'.heap.size
  os : w'.os = w.os
  tape : w'.tape = w.tape
  output : w'.output = w.output
  ng : ∀ r, S r → hp' r ≠ .gone

theorem Step.le {S : Nat → Prop} {N N' : Nm} {hp hp' : Nat → AObj Ty El} {w w' : World} (hs : Step C S N N' hp hp' w w') (h : HR C N hp w) : Le N N' w w' :=
  ⟨hs.G, hs.ro, fun b hb => hs.mem b (h.roLt b hb) (fun r _ hf => h.roNot r b hf hb)⟩

theorem HR.step (hC : CodOK P C) {S : Nat → Prop} {N N' : Nm} {hp hp' : Nat → AObj Ty El} {w w' : World} (h : HR C N hp w) (hs : Step C S N N' hp hp' w w') : HR C N' hp' w' := by
  have hL := hs.le h
  have keep : ∀ r, ¬ S r → ∀ b, N.F r b → w'.heap[b]? = w.heap[b]? := fun r hr b hb =>
    hs.mem b ((h.obj r).lt hC hb) (fun r0 h0 hf => hr (h.dist r r0 b hb hf ▸ h0))
  have lt : ∀ r b, N.F r b → b < w.heap.size := fun r b hb => (h.obj r).lt hC hb
  refine ⟨fun r => ?_, fun r p v u hg => ?_, fun r => ?_, fun r p v u hg => ?_, fun r r' b h1 h2 => ?_, fun r b hb => ?_, hs.roLt⟩
  · by_cases hr : S r
    · exact hs.obj r hr
    · obtain ⟨e, hn⟩ := hs.same r hr
      rw [e]; exact (h.obj r).mono hC hL hn (keep r hr)
  · by_cases hr : S r
    · exact hs.reg r hr p v u hg
    · obtain ⟨e, hn⟩ := hs.same r hr
      rw [e, hn.ν]; exact refOK.mono hC (h.obj r) (keep r hr) (h.reg r p v u ((hn.G p v u).1 hg))
  · by_cases hr : S r
    · exact hs.full r hr
    · obtain ⟨e, hn⟩ := hs.same r hr
      rw [e]; exact Qamb.mono hC (h.obj r) hn (keep r hr) (h.full r)
  · by_cases hr : S r
    · exact hs.one r hr p v u hg
    · exact h.one r p v u (((hs.same r hr).2.G p v u).1 hg)
  · by_cases e1 : S r
    · by_cases e2 : S r'
      · exact hs.dist r r' b e1 e2 h1 h2
      · have h2' := ((hs.same r' e2).2.F b).1 h2
        rcases hs.F r b e1 h1 with ⟨r0, h3, h4⟩ | h3
        · exact absurd (h.dist r' r0 b h2' h4 ▸ h3) e2
        · exact absurd (lt r' b h2') (by omega)
    · have h1' := ((hs.same r e1).2.F b).1 h1
      by_cases e2 : S r'
      · rcases hs.F r' b e2 h2 with ⟨r0, h3, h4⟩ | h3
        · exact absurd (h.dist r r0 b h1' h4 ▸ h3) e1
        · exact absurd (lt r b h1') (by omega)
      · exact h.dist r r' b h1' (((hs.same r' e2).2.F b).1 h2)
  · by_cases hr : S r
    · exact hs.roS r b hr hb
    · have hb' := ((hs.same r hr).2.F b).1 hb
      intro hro
      rcases hs.roO b hro with h1 | h1 | ⟨r0, h1, h2⟩
      · exact h.roNot r b hb' h1
      · exact absurd (lt r b hb') (by omega)
      · exact hr (h.dist r r0 b hb' h2 ▸ h1)

theorem SimN.step (hC : CodOK P C) {X : Cx} {S : Nat → Prop} {N N' : Nm} {tm : Nat → AV Ty El} {hp hp' : Nat → AObj Ty El} {a : Act} {w w' : World} (h : SimN C X N tm hp a w) (hs : Step C S N N' hp hp' w w')
    (hio : ∀ k, S k → k < X.m → stays hp' k = true → stays hp k = true ∧ N'.ν k = N.ν k) : SimN C X N' tm hp' a w' := by
  have hL := hs.le h.hr
  have hlive : ∀ b, (∃ r0, S r0 ∧ N.F r0 b) ∨ w.heap.size ≤ b → X.w0.heap.size ≤ b ∨ X.mine b := fun b hb => by
    rcases hb with ⟨r0, _, h1⟩ | h1
    · exact h.live r0 b h1
    · exact .inl (Nat.le_trans h.fr.size h1)
  refine ⟨h.hr.step hC hs, fun t ht => (h.tmps t ht).mono hL, h.size, h.defers, ?_, fun r b hb => ?_, fun k hk hst => ?_, fun k hk => ?_, fun b hb => hs.ro b (h.roI b hb), fun b hb => ?_⟩
  · refine ⟨hs.os.trans h.fr.os, hs.tape.trans h.fr.tape, hs.output.trans h.fr.output, Nat.le_trans h.fr.size hs.size, fun b hb hm => ?_⟩
    refine (hs.mem b (Nat.lt_of_lt_of_le hb h.fr.size) (fun r _ e => ?_)).trans (h.fr.block b hb hm)
    rcases h.live r b e with h1 | h1
    · omega
    · exact hm h1
  · by_cases e : S r
    · exact hlive b (hs.F r b e hb)
    · exact h.live r b (((hs.same r e).2.F b).1 hb)
  · by_cases e : S k
    · obtain ⟨h1, h2⟩ := hio k e hk hst
      exact h2.trans (h.io k hk h1)
    · obtain ⟨h1, h2⟩ := hs.same k e
      refine h2.ν.trans (h.io k hk ?_)
      simpa [stays, h1] using hst
  · by_cases e : S k
    · exact hs.ng k e
    · rw [(hs.same k e).1]; exact h.nog k hk
  · rcases hs.roO b hb with h1 | h1 | ⟨r, _, h1⟩
    · exact h.roO b h1
    · exact .inr (.inl (Nat.le_trans h.fr.size h1))
    · exact .inr (h.live r b h1)

theorem SimN.put {X : Cx} {N : Nm} {tm : Nat → AV Ty El} {hp : Nat → AObj Ty El} {a : Act} {w : World} (h : SimN C X N tm hp a w) {v : Value} {x : AV Ty El}
    (hv : RepA C N w v x) (d : Option Tmp) : SimN C X N (updT X.n tm d x) hp (a.put d v) w := by
  cases d with
  | none => exact h
  | some d =>
    refine ⟨h.hr, fun t ht => ?_, ?_, h.defers, h.fr, h.live, h.io, h.nog, h.roI, h.roO⟩
    · have ht' : t < a.tmps.size := by simpa [Act.put] using ht
      by_cases e : t = d
      · subst e
        have hX : t < X.n := by rw [← h.size]; exact ht'
        simp [updT, Act.put, ht', hX, hv]
      · have hne : ¬ (t = d ∧ d < X.n) := fun h => e h.1
        have := h.tmps t ht'
        simp only [updT, hne, if_false, Act.put]
        rw [Array.getD_eq_getD_getElem?, Array.getElem?_setIfInBounds_ne (fun e' => e e'.symm), ← Array.getD_eq_getD_getElem?]
        exact this
    · simpa [Act.put] using h.size

def Nm.upd (N : Nm) (r : Nat) (ν : Value) (F : Nat → Prop) (Gn : Path → Nat → Value → Prop) (ro : Nat → Prop) : Nm :=
  { ν := fun k => if k = r then ν else N.ν k, F := fun k b => if k = r then F b else N.F k b, G := fun k p v u => N.G k p v u ∨ (k = r ∧ Gn p v u), ro := fun b => N.ro b ∨ ro b }
@[simp] theorem Nm.upd_ν_self (N : Nm) (r : Nat) (ν : Value) (F : Nat → Prop) (Gn : Path → Nat → Value → Prop) (ro : Nat → Prop) : (N.upd r ν F Gn ro).ν r = ν := by simp [Nm.upd]
@[simp] theorem Nm.upd_F_self (N : Nm) (r : Nat) (ν : Value) (F : Nat → Prop) (Gn : Path → Nat → Value → Prop) (ro : Nat → Prop) (b : Nat) : (N.upd r ν F Gn ro).F r b = F b := by simp [Nm.upd]
theorem Nm.upd_same (N : Nm) {r k : Nat} (ν : Value) (F : Nat → Prop) (Gn : Path → Nat → Value → Prop) (ro : Nat → Prop) (h : k ≠ r) : SameN N (N.upd r ν F Gn ro) k := ⟨by simp [Nm.upd, h], fun b => by simp [Nm.upd, h], fun p v u => by simp [Nm.upd, h]⟩

def rowG (C : Cod Ty El) (w : World) (T : Ty) (xs : List (El T)) (ν : Value) (d vr vn : Nat) (m : Msk) : Path → Nat → Value → Prop := fun p v u =>
  (p = [] ∧ v = vr ∧ u = ν) ∨ (p ≠ [] ∧ p.length ≤ d ∧ m = .no ∧ v = vn ∧ hdr C w T xs ν p = some u)

theorem Qgbe {N : Nm} {w : World} : ∀ (p : Path) (d : Nat) (B : Nat → Prop) (m : Path → Prop) (v : Value) (S : Ty) (ys : List (El S)) (u : Value), Deep C N w d m B v S ys → (∀ q, ¬ m q) → v.oneCell' = true → p.length ≤ d → hdr C w S ys v p = some u → u.oneCell' = true
  | [], d, B, m, v, S, ys, u, h, hm, h1, hp, hh => by
    simp only [hdr, Option.some.injEq] at hh
    subst hh; exact h1
  | (i, j) :: p, 0, B, m, v, S, ys, u, h, hm, h1, hp, hh => by simp at hp
  | (i, j) :: p, d + 1, B, m, v, S, ys, u, h, hm, h1, hp, hh => by
    obtain ⟨e, cells, Fs, h⟩ := h
    unfold hdr at hh
    split at hh
    · rename_i a n cap
      split at hh
      · rename_i hi
        split at hh
        · rename_i U zs hc
          split at hh
          · rename_i u' hu
            obtain ⟨u2, hu2, hk⟩ := h.cell i j _ hi hc
            have hcell : u2 = u' := by
              rcases h.own.2 with ⟨hv, _⟩ | ⟨g, cap', cur, hv, _, hh', hle, _, hsz, htk⟩
              · cases hv
              · simp only [Value.slice.injEq, Option.some.injEq] at hv
                obtain ⟨rfl, rfl, rfl⟩ := hv
                have hlt : i * C.sz S + j < cells.length := (List.getElem?_eq_some_iff.1 hu2).1
                rw [h.own.1] at hlt
                rw [← htk, List.getElem?_take_of_lt hlt] at hu2
                simp only [World.cell?, hh'] at hu
                have e2 : cur[i * C.sz S + j]? = some u' := by simpa using hu
                have e3 : cur[i * C.sz S + j]? = some u2 := by simpa using hu2
                rw [e3] at e2; exact Option.some.inj e2
            subst hcell
            rcases hk with hk | hk
            · exact absurd hk.1 (hm _)
            · exact Qgbe p d _ _ u2 U zs u hk.2 (fun q => hm _) (h.one u2 (List.mem_of_getElem? hu2)) (by simpa using hp) hh
          · cases hh
        · cases hh
      · cases hh
    · cases hh

theorem Step.row (hC : CodOK P C) {N : Nm} {hp : Nat → AObj Ty El} {w w' : World} (h : HR C N hp w) {r : Nat} {T : Ty} {xs : List (El T)} {d vr vn : Nat} {m : Msk} {ν : Value} {F ro : Nat → Prop}
    (hmem : ∀ b, b < w.heap.size → ¬ N.F r b → w'.heap[b]? = w.heap[b]?) (hsz : w.heap.size ≤ w'.heap.size) (h1 : ν.oneCell' = true)
    (hdeep : Le N (N.upd r ν F (rowG C w' T xs ν d vr vn m) ro) w w' → Deep C (N.upd r ν F (rowG C w' T xs ν d vr vn m) ro) w' d (mskP m) F ν T xs)
    (hold : ∀ p v u, N.G r p v u → refOK C w' ν p v u (.row T xs d vr vn m))
    (hF : ∀ b, F b → N.F r b ∨ w.heap.size ≤ b) (hro : ∀ b, ro b → (w.heap.size ≤ b ∧ b < w'.heap.size) ∨ N.F r b) (hroF : ∀ b, F b → ¬ ro b)
    (hos : w'.os = w.os) (htp : w'.tape = w.tape) (hout : w'.output = w.output) :
    Step C (fun k => k = r) N (N.upd r ν F (rowG C w' T xs ν d vr vn m) ro) hp (setH hp r (.row T xs d vr vn m)) w w' := by
  have hL : Le N (N.upd r ν F (rowG C w' T xs ν d vr vn m) ro) w w' := ⟨fun _ _ _ _ h => .inl h, fun _ h => .inl h, fun b hb => hmem b (h.roLt b hb) (fun hf => h.roNot r b hf hb)⟩
  have hd := hdeep hL
  refine { same := fun k hk => ⟨Qte0 hp _ hk, N.upd_same _ _ _ _ hk⟩, G := hL.G, ro := hL.ro, roO := fun b hb => ?_, mem := fun b hb hf => hmem b hb (hf r rfl), size := hsz, obj := fun k hk => ?_, reg := fun k hk p v u hg => ?_, full := fun k hk => ?_,
           one := fun k hk p v u hg => ?_, F := fun k b hk hb => ?_, dist := fun k k' b hk hk' _ _ => hk.trans hk'.symm, roS := fun k b hk hb => ?_, roLt := fun b hb => ?_, os := hos, tape := htp, output := hout, ng := fun k hk => by subst hk; rw [Q3el]; simp }
  · rcases hb with hb | hb
    · exact .inl hb
    · rcases hro b hb with h2 | h2
      · exact .inr (.inl h2.1)
      · exact .inr (.inr ⟨r, rfl, h2⟩)
  · subst hk
    rw [Q3el]
    refine ⟨by simpa using h1, ?_⟩
    have e : (N.upd k ν F (rowG C w' T xs ν d vr vn m) ro).F k = F := funext fun b => by simp
    rw [e, Nm.upd_ν_self]
    exact hd
  · subst hk
    rw [Q3el, Nm.upd_ν_self]
    rcases hg with hg | ⟨_, hg⟩
    · exact hold p v u hg
    · rcases hg with ⟨rfl, rfl, rfl⟩ | ⟨h2, h3, h4, rfl, h5⟩
      · exact ⟨Nat.le_refl _, fun _ => rfl⟩
      · cases p with
        | nil => exact absurd rfl h2
        | cons q p => exact ⟨Nat.le_refl _, fun _ _ _ => h5⟩
  · subst hk
    rw [Q3el]
    refine ⟨.inr ⟨rfl, .inl ⟨rfl, rfl, by simp⟩⟩, fun p u h2 h3 h4 h5 => .inr ⟨rfl, .inr ⟨h2, h3, h4, rfl, by simpa using h5⟩⟩⟩
  · subst hk
    rcases hg with hg | ⟨_, hg⟩
    · exact h.one k p v u hg
    · rcases hg with ⟨rfl, rfl, rfl⟩ | ⟨h2, h3, h4, rfl, h5⟩
      · exact h1
      · subst h4
        exact Qgbe p d _ _ ν T xs u hd (fun _ h => h) h1 h3 h5
  · subst hk
    simp only [Nm.upd_F_self] at hb
    exact (hF b hb).imp (fun h => ⟨k, rfl, h⟩) id
  · subst hk
    simp only [Nm.upd_F_self] at hb
    rintro (h2 | h2)
    · rcases hF b hb with h3 | h3
      · exact h.roNot k b h3 h2
      · exact absurd (h.roLt b h2) (by omega)
    · exact hroF b hb h2
  · rcases hb with hb | hb
    · exact Nat.lt_of_lt_of_le (h.roLt b hb) hsz
    · rcases hro b hb with h2 | h2
      · exact h2.2
      · exact Nat.lt_of_lt_of_le ((h.obj r).lt hC h2) hsz

theorem Step.box (hC : CodOK P C) {N : Nm} {hp : Nat → AObj Ty El} {w w' : World} (h : HR C N hp w) {r b : Nat} {cs : List (AV Ty El)} {arr : Array Value} {t : TypeId}
    (hmem : ∀ b', b' < w.heap.size → b' ≠ b → w'.heap[b']? = w.heap[b']?) (hsz : w.heap.size ≤ w'.heap.size) (hh : w'.heap[b]? = some (.cells arr t (0, 0))) (hs : arr.size = cs.length) (h1 : ∀ v ∈ arr, v.oneCell' = true)
    (hc : Le N (N.upd r (.pointer (some ⟨b, 0, none⟩)) (fun b' => b' = b) (fun p v u => p = [] ∧ v = 0 ∧ u = .pointer (some ⟨b, 0, none⟩)) (fun _ => False)) w w' →
      ∀ (j : Nat) v c, arr[j]? = some v → cs[j]? = some c → RepA C (N.upd r (.pointer (some ⟨b, 0, none⟩)) (fun b' => b' = b) (fun p v u => p = [] ∧ v = 0 ∧ u = .pointer (some ⟨b, 0, none⟩)) (fun _ => False)) w' v c)
    (hold : ∀ p v u, N.G r p v u → p = [] → v = 0 → u = .pointer (some ⟨b, 0, none⟩)) (hb : (∀ b', N.F r b' ↔ b' = b) ∨ ((∀ b', ¬ N.F r b') ∧ w.heap.size ≤ b))
    (hos : w'.os = w.os) (htp : w'.tape = w.tape) (hout : w'.output = w.output) :
    Step C (fun k => k = r) N (N.upd r (.pointer (some ⟨b, 0, none⟩)) (fun b' => b' = b) (fun p v u => p = [] ∧ v = 0 ∧ u = .pointer (some ⟨b, 0, none⟩)) (fun _ => False)) hp (setH hp r (.box cs)) w w' := by
  have hbro : ¬ N.ro b := fun hr => by
    rcases hb with hb | ⟨_, hb⟩
    · exact h.roNot r b ((hb b).2 rfl) hr
    · exact absurd (h.roLt b hr) (by omega)
  have hL : Le N (N.upd r (.pointer (some ⟨b, 0, none⟩)) (fun b' => b' = b) (fun p v u => p = [] ∧ v = 0 ∧ u = .pointer (some ⟨b, 0, none⟩)) (fun _ => False)) w w' :=
    ⟨fun _ _ _ _ h => .inl h, fun _ h => .inl h, fun b' hb' => hmem b' (h.roLt b' hb') (fun e => hbro (e ▸ hb'))⟩
  refine { same := fun k hk => ⟨Qte0 hp _ hk, N.upd_same _ _ _ _ hk⟩, G := hL.G, ro := hL.ro, roO := fun b' hb' => .inl (hb'.resolve_right id), mem := fun b' hb' hf => hmem b' hb' (fun e => ?_), size := hsz, obj := fun k hk => ?_, reg := fun k hk p v u hg => ?_, full := fun k hk => ?_,
           one := fun k hk p v u hg => ?_, F := fun k b' hk hb' => ?_, dist := fun k k' b hk hk' _ _ => hk.trans hk'.symm, roS := fun k b' hk hb' => ?_, roLt := fun b' hb' => Nat.lt_of_lt_of_le (h.roLt b' (hb'.resolve_right id)) hsz, os := hos, tape := htp, output := hout, ng := fun k hk => by subst hk; rw [Q3el]; simp }
  · subst e
    rcases hb with hb | ⟨_, hb⟩
    · exact hf r rfl ((hb b').2 rfl)
    · omega
  · subst hk
    rw [Q3el]
    exact ⟨b, arr, t, by simp, hh, hs, h1, hc hL, fun b' => by simp⟩
  · subst hk
    rw [Q3el, Nm.upd_ν_self]
    intro h2 h3
    rcases hg with hg | ⟨_, hg⟩
    · exact hold p v u hg h2 h3
    · exact hg.2.2
  · subst hk
    rw [Q3el]
    exact .inr ⟨rfl, rfl, rfl, by simp⟩
  · subst hk
    rcases hg with hg | ⟨_, hg⟩
    · exact h.one k p v u hg
    · rw [hg.2.2]; rfl
  · subst hk
    simp only [Nm.upd_F_self] at hb'
    rcases hb with hb | ⟨_, hb⟩
    · exact .inl ⟨k, rfl, (hb b').2 hb'⟩
    · exact .inr (by omega)
  · subst hk
    simp only [Nm.upd_F_self] at hb'
    rintro (h2 | h2)
    · subst hb'; exact hbro h2
    · exact h2
end
end Lx
namespace Lx
open Go
section
variable {Ty : Type} {El : Ty → Type} {C : Cod Ty El} {P : Program}

theorem RepA.ofVal1 {N : Nm} {w : World} (v : Value) : RepA C N w v (ofVal1 v) := by
  unfold Lx.ofVal1
  split
  · exact .int _ _
  · exact .bool _
  · exact .str _ _ rfl
  · exact .nilp
  · exact .nils
  · exact .dead _
theorem RepA.ofVal {N : Nm} {w : World} (v : Value) : RepA C N w v (ofVal v) := by
  unfold Lx.ofVal
  split
  · rename_i cs
    refine .agg _ _ (by simp) fun j v c hv hc => ?_
    rw [List.getElem?_map, Array.getElem?_toList, hv] at hc
    simp only [Option.map_some, Option.some.injEq] at hc
    subst hc
    exact .ofVal1 v
  · exact .ofVal1 v

theorem SimN.evalO {X : Cx} {N : Nm} {tm : Nat → AV Ty El} {hp : Nat → AObj Ty El} {a : Act} {w : World} (h : SimN C X N tm hp a w)
    (hout : ∀ t, X.n ≤ t → tm t = .dead) (x : Operand) : RepA C N w (a.eval x) (evalO tm x) := by
  cases x with
  | tmp t =>
    by_cases ht : t < a.tmps.size
    · exact h.tmps t ht
    · have : tm t = .dead := hout t (h.size ▸ Nat.le_of_not_lt ht)
      simp only [Lx.evalO, this]
      exact .dead _
  | const v => exact .ofVal v
  | global g => exact .dead _
  | func f => exact .fn (.func f) #[] [] rfl (fun j v c hv => by simp at hv)

theorem Qo7a {o : Oper} {a : Act} {w w' : World} {v : Value} {next : Act → World → Prop} {Q : Exit → Act → World → Prop}
    (h : (execOp a.eval o).run P w = .ok (.value v) w') (hn : next (a.put o.dst v) w') : o.wp P a w next Q := by
  unfold Oper.wp; rw [h]; exact hn
theorem Q9ng {o : Oper} {a : Act} {w w' : World} {next : Act → World → Prop} {Q : Exit → Act → World → Prop}
    (h : (execOp a.eval o).run P w = .ok .skip w') (hn : next (a.put o.dst undef) w') : o.wp P a w next Q := by
  unfold Oper.wp; rw [h]; exact hn

theorem RepA.inv_int {N : Nm} {w : World} {v : Value} {k : IntKind} {n : Int} (h : RepA C N w v (.int k n)) : v = .int k n := by cases h; rfl
theorem RepA.inv_bool {N : Nm} {w : World} {v : Value} {b : Bool} (h : RepA C N w v (.bool b)) : v = .bool b := by cases h; rfl
theorem RepA.inv_str {N : Nm} {w : World} {v : Value} {l : List UInt8} (h : RepA C N w v (.str l)) : ∃ s : ByteArray, v = .string s ∧ s.data.toList = l := by
  cases h with | str s l h => exact ⟨s, rfl, h⟩
theorem Qa10 {x : AV Ty El} {n : Int} (h : asI x = some n) : ∃ k, x = .int k n := by
  unfold asI at h; split at h
  · simp at h; subst h; exact ⟨_, rfl⟩
  · cases h

theorem Qi2m : ∀ x y, Op.bytesLess x y = Q7zj x y
  | [], [] => rfl
  | _ :: _, [] => by simp [Op.bytesLess, Q7zj]
  | [], _ :: _ => rfl
  | a :: x, b :: y => by simp [Op.bytesLess, Q7zj, Qi2m x y]

theorem Q1pl (s : ByteArray) : s.toList = s.data.toList := ByteArray.toList_eq s

theorem Qr08 {op : BinOp} {k : IntKind} {a b : Int} {g : Bool} {v : AV Ty El} (h : Q9hw op k a b = some (g, v)) (hg : g = true) (N : Nm) (w : World) (t : TypeId) (x y : Operand) :
    ∃ u, (do eqGuard op t x y (.int k a) (.int k b); binOp op t (.int k a) (.int k b) : Sem Value).run P w = .ok u w ∧ RepA C N w u v := by
  cases op <;> simp only [Q9hw, Option.some.injEq, Prod.mk.injEq] at h <;> first
    | (cases h; done)
    | (obtain ⟨rfl, rfl⟩ := h
       simp only [Bool.not_eq_true', beq_eq_false_iff_ne, ne_eq] at hg
       refine ⟨_, ?_, by first | exact .int _ _ | exact .bool _⟩
       simp [eqGuard, binOp, Op.intArith, Op.intDiv, Op.intBits, Op.intCmp, hg])

theorem Qivn {op : BinOp} {a b : List UInt8} {sa sb : ByteArray} (ha : sa.data.toList = a) (hb : sb.data.toList = b) {g : Bool} {v : AV Ty El} (h : Qrw6 op a b = some (g, v)) (hg : g = true) (N : Nm) (w : World) (t : TypeId) (x y : Operand) :
    ∃ u, (do eqGuard op t x y (.string sa) (.string sb); binOp op t (.string sa) (.string sb) : Sem Value).run P w = .ok u w ∧ RepA C N w u v := by
  subst ha; subst hb
  cases op <;> simp only [Qrw6, Option.some.injEq, Prod.mk.injEq] at h <;> first
    | (cases h; done)
    | (obtain ⟨rfl, rfl⟩ := h
       refine ⟨.bool _, ?_, .bool _⟩
       simp [eqGuard, binOp, Op.stringOp, Qi2m, Q1pl]
       done)
    | skip
  obtain ⟨rfl, rfl⟩ := h
  simp only [decide_eq_true_eq, Array.length_toList] at hg
  refine ⟨.string (sa ++ sb), ?_, .str _ _ (by simp)⟩
  have h1 : ¬ ((sa.size + sb.size : Nat) : Int) > IntKind.i64.max := by
    have : IntKind.i64.max = 9223372036854775807 := by decide
    rw [this]
    have e1 : sa.size = sa.data.size := rfl
    have e2 : sb.size = sb.data.size := rfl
    omega
  simp [eqGuard, binOp, Op.stringOp] at h1 ⊢
  omega

theorem RepA.inv_agg {N : Nm} {w : World} {v : Value} {cs : List (AV Ty El)} (h : RepA C N w v (.agg cs)) :
    ∃ vs : Array Value, v = .agg vs ∧ vs.size = cs.length ∧ ∀ (j : Nat) u c, vs[j]? = some u → cs[j]? = some c → RepA C N w u c := by
  cases h with | agg vs cs hl h => exact ⟨vs, rfl, hl, h⟩

theorem Qqan {N : Nm} {w : World} {d : Nat} {xs ys : Array Value} : ∀ (fs : List Field) (k : Nat) (as bs : List (AV Ty El)) (r : Bool), eqF P fs k as bs = some r →
    (∀ (j : Nat) c, as[j]? = some c → ∃ u, xs[k + j]? = some u ∧ RepA C N w u c) → (∀ (j : Nat) c, bs[j]? = some c → ∃ u, ys[k + j]? = some u ∧ RepA C N w u c) →
    (Op.eqFields (d + 1) xs ys fs).run P w = .ok r w := by
  intro fs
  induction fs with
  | nil =>
    intro k as bs r h _ _
    cases as <;> cases bs <;> simp [eqF] at h
    subst h
    simp [Op.eqFields]
  | cons f fs ih =>
    intro k as bs r h ha hb
    cases as with
    | nil => simp [eqF] at h
    | cons a as =>
      cases bs with
      | nil => simp [eqF] at h
      | cons b bs =>
        simp only [eqF] at h
        split at h
        · rename_i hc
          obtain ⟨hn, ho⟩ := hc
          split at h
          · rename_i s hs
            have ih' := ih (k + 1) as bs s hs (fun j c hj => by
              obtain ⟨u, h1, h2⟩ := ha (j + 1) c (by simpa using hj)
              exact ⟨u, by rw [show k + 1 + j = k + (j + 1) by omega]; exact h1, h2⟩) (fun j c hj => by
              obtain ⟨u, h1, h2⟩ := hb (j + 1) c (by simpa using hj)
              exact ⟨u, by rw [show k + 1 + j = k + (j + 1) by omega]; exact h1, h2⟩)
            obtain ⟨u, hu, hru⟩ := ha 0 a rfl
            obtain ⟨v, hv, hrv⟩ := hb 0 b rfl
            simp only [Nat.add_zero] at hu hv
            have hn' : f.name ≠ "_" := by simpa using hn
            have key : ∀ e : Bool, P.plainKey f.type = true → (Op.equalIn (d + 1) f.type u v).run P w = .ok e w → (Op.eqFields (d + 1) xs ys (f :: fs)).run P w = .ok (e && s) w := by
              intro e hp he
              have h1 := run_part_plain (P := P) (w := w) hp (xs := xs) (off := f.offset) (by rw [ho]; exact hu)
              have h2 := run_part_plain (P := P) (w := w) hp (xs := ys) (off := f.offset) (by rw [ho]; exact hv)
              simp only [Op.eqFields, if_pos hn', Sem.run_bind, h1, h2, he, Result.andThen_ok]
              cases e
              · simp
              · simpa using ih'
            split at h
            · rename_i q0 q x q' y hut
              split at h
              · rename_i hq
                subst hq
                simp only [Option.some.injEq] at h
                subst h
                rw [hru.inv_int, hrv.inv_int] at key
                exact key _ (by simp [Program.plainKey, hut]) (run_equalIn_int w d f.type q q0 x y hut)
              · cases h
            · rename_i x y hut
              simp only [Option.some.injEq] at h
              subst h
              rw [hru.inv_bool, hrv.inv_bool] at key
              exact key _ (by simp [Program.plainKey, hut]) (run_equalIn_bool' w d f.type x y hut)
            · rename_i x y hut
              simp only [Option.some.injEq] at h
              subst h
              obtain ⟨sx, ex, hx⟩ := hru.inv_str
              obtain ⟨sy, ey, hy⟩ := hrv.inv_str
              rw [ex, ey] at key
              have := key _ (by simp [Program.plainKey, hut]) (run_equalIn_string w d f.type sx sy hut)
              rw [Q1pl, Q1pl, hx, hy] at this
              exact this
            · cases h
          · cases h
        · cases h

theorem Q95j {N : Nm} {w : World} {t : TypeId} {as bs : List (AV Ty El)} {r : Bool} (h : eqAgg P t as bs = some r) {u v : Value} (hu : RepA C N w u (.agg as)) (hv : RepA C N w v (.agg bs)) (x y : Operand) :
    (do eqGuard .eql t x y u v; binOp .eql t u v : Sem Value).run P w = .ok (.bool r) w ∧ (do eqGuard .neq t x y u v; binOp .neq t u v : Sem Value).run P w = .ok (.bool (!r)) w := by
  obtain ⟨xs, rfl, hlx, hx⟩ := hu.inv_agg
  obtain ⟨ys, rfl, hly, hy⟩ := hv.inv_agg
  unfold eqAgg at h
  split at h
  · rename_i fs hf
    split at h
    · rename_i hc
      have hff : P.fieldsOf t = fs := by simp [Program.fieldsOf, hf]
      have he := Qqan (d := 9998) (xs := xs) (ys := ys) fs.toList 0 as bs r h (fun j c hj => by
          have hlt : j < xs.size := by rw [hlx]; exact (List.getElem?_eq_some_iff.1 hj).1
          exact ⟨xs[j], by simp [hlt], hx j _ c (by simp [hlt]) hj⟩) (fun j c hj => by
          have hlt : j < ys.size := by rw [hly]; exact (List.getElem?_eq_some_iff.1 hj).1
          exact ⟨ys[j], by simp [hlt], hy j _ c (by simp [hlt]) hj⟩)
      have heq : (Op.equalIn 10000 t (.agg xs) (.agg ys)).run P w = .ok r w := by
        rw [run_equalIn_struct (P := P) w 9999 t xs ys (by rw [hff]; exact hf) hc.1, hff]
        exact he
      have hg := fun op => run_eqGuard_agg (P := P) w op t x y xs ys hc.2
      constructor
      · simp only [Sem.run_bind, hg, Result.andThen_ok, run_eql_struct, heq]
      · simp only [Sem.run_bind, hg, Result.andThen_ok, run_neq_struct, heq]
    · cases h
  · cases h

theorem Qrar {N : Nm} {w : World} {op : BinOp} {t : TypeId} {x y : AV Ty El} {u v : Value} (hu : RepA C N w u x) (hv : RepA C N w v y) {g : Bool} {z : AV Ty El}
    (h : binA P t op x y = some (g, z)) (hg : g = true) (ox oy : Operand) :
    ∃ r, (do eqGuard op t ox oy u v; binOp op t u v : Sem Value).run P w = .ok r w ∧ RepA C N w r z := by
  unfold binA at h
  split at h
  · split at h
    · rename_i hk
      subst hk
      rw [hu.inv_int, hv.inv_int]
      exact Qr08 h hg N w t ox oy
    · cases h
  · obtain ⟨sa, rfl, ha⟩ := hu.inv_str
    obtain ⟨sb, rfl, hb⟩ := hv.inv_str
    exact Qivn ha hb h hg N w t ox oy
  · rename_i a b
    rw [hu.inv_bool, hv.inv_bool]
    split at h
    · rename_i ht
      simp only [Option.some.injEq, Prod.mk.injEq] at h
      obtain ⟨_, rfl⟩ := h
      refine ⟨.bool (a == b), ?_, .bool _⟩
      have := run_equalIn_bool' (P := P) w 9999 t a b ht
      simp [eqGuard, binOp, Op.equal, Op.maxDepth, this]
    · rename_i ht
      simp only [Option.some.injEq, Prod.mk.injEq] at h
      obtain ⟨_, rfl⟩ := h
      refine ⟨.bool (!(a == b)), ?_, .bool _⟩
      have := run_equalIn_bool' (P := P) w 9999 t a b ht
      simp [eqGuard, binOp, Op.equal, Op.maxDepth, this]
    · cases h
  · split at h
    · split at h
      · rename_i e he
        simp only [Option.some.injEq, Prod.mk.injEq] at h
        obtain ⟨_, rfl⟩ := h
        exact ⟨_, (Q95j he hu hv ox oy).1, .bool _⟩
      · cases h
    · split at h
      · rename_i e he
        simp only [Option.some.injEq, Prod.mk.injEq] at h
        obtain ⟨_, rfl⟩ := h
        exact ⟨_, (Q95j he hu hv ox oy).2, .bool _⟩
      · cases h
    · cases h
  · cases h
end
end Lx
namespace Lx
open Go
section
variable {Ty : Type} {El : Ty → Type} {C : Cod Ty El} {P : Program}

theorem Qimv (b o j : Nat) : (⟨b,o,none⟩ : Addr).add j = ⟨b,o + j,none⟩:=by unfold Addr.add; split <;> simp_all

def Qz9e (C : Cod Ty El) (N : Nm) (w : World) (b o : Nat) (cs : List (AV Ty El)) : Prop:=∀ (j : Nat) c,cs[j]? = some c → ∃ u,w.cell? ⟨b,o + j,none⟩ = some u ∧ RepA C N w u c

theorem Q5n1 {t : TypeId} {d : TypeDesc} (h : P.underlying t = some d) (w : World) : (isAgg t).run P w = .ok (Qlnm d) w:=by
 unfold isAgg
 simp only [Sem.run_bind,run_underlying h,Result.andThen_ok]
 cases d <;> rfl

theorem Qvtr {t : TypeId} {i : TypeInfo} (h : P.info? t = some i) (w : World) : (Go.sizeOf t).run P w = .ok i.size w:=by
 unfold Go.sizeOf
 simp only [Sem.run_bind,run_typeInfo (P:=P) (w:=w) h,Result.andThen_ok,Sem.run_pure]

theorem Qckr {t : TypeId} {g : Bool} {n : Nat} (h : szOf P t = some (g,n)) : ∃ d i,P.underlying t = some d ∧ P.info? t = some i ∧ Qlnm d = g ∧ i.size = n:=by
 unfold szOf at h
 split at h
 ·rename_i d hd
  split at h
  ·rename_i i hi
   simp only [Option.some.injEq,Prod.mk.injEq] at h
   exact ⟨d,i,hd,hi,h.1,h.2⟩
  ·cases h
 ·cases h

theorem Q8hg {N : Nm} {w : World} {b o off : Nat} {cs : List (AV Ty El)} {t : TypeId} {x : AV Ty El} (hc : Qz9e C N w b o cs) (h : partA P t cs off = some x) :
  ∃ u,(loadVar t ⟨b,o + off,none⟩).run P w = .ok u w ∧ RepA C N w u x:=by
 unfold partA at h
 split at h
 ·rename_i n hs
  obtain ⟨d,i,hd,hi,hg,hn⟩:=Qckr hs
  split at h
  ·rename_i hle
   simp only [Option.some.injEq] at h
   subst h
   have hcell : ∀ j,j < n → w.cell? ((⟨b,o + off,none⟩ : Addr).add j) = some ((w.cell? ⟨b,o + off + j,none⟩).getD undef):=by
    intro j hj
    obtain ⟨u,hu,_⟩:=hc (off + j) _ (List.getElem?_eq_getElem (by omega))
    rw [Qimv,Nat.add_assoc,hu]; rfl
   refine ⟨.agg ((List.range n).map fun j=>(w.cell? ⟨b,o + off + j,none⟩).getD undef).toArray, ?_,.agg _ _ (by simp; omega) fun j v c hv hcc=>?_⟩
   ·unfold loadVar
    simp only [Sem.run_bind,Q5n1 hd,hg,Result.andThen_ok,if_true,Qvtr hi,Sem.run_pure,hn]
    rw [run_loadCells w _ n _ hcell]
    rfl
   ·have hj : j < n:=by
     rcases Nat.lt_or_ge j n with h1 | h1
     ·exact h1
     ·simp [h1] at hv
    have hcc' : cs[off + j]? = some c:=by
     rw [List.getElem?_take_of_lt hj,List.getElem?_drop] at hcc
     exact hcc
    obtain ⟨u,hu,hr⟩:=hc (off + j) c hcc'
    simp only [List.getElem?_toArray,List.getElem?_map,List.getElem?_range hj,Option.map_some,Option.some.injEq] at hv
    rw [Nat.add_assoc,hu] at hv
    simp only [Option.getD_some] at hv
    subst hv
    exact hr
  ·cases h
 ·rename_i n hs
  obtain ⟨d,i,hd,hi,hg,hn⟩:=Qckr hs
  obtain ⟨u,hu,hr⟩:=hc off x h
  refine ⟨u, ?_,hr⟩
  unfold loadVar
  simp only [Sem.run_bind,Q5n1 hd,hg,Result.andThen_ok,Bool.false_eq_true,if_false,run_load,hu]
 ·cases h

theorem RepA.one {N : Nm} {w : World} {v : Value} {x : AV Ty El} (h : RepA C N w v x) (hx : oneA x = true) (hν : ∀ r p v u,N.G r p v u → u.oneCell' = true) : v.oneCell' = true:=by
 cases h <;> first | rfl | (simp [oneA] at hx; done) | skip
 rename_i r p ver hD
 exact hν r p ver _ hD
theorem RepA.cellOK_one {N : Nm} {w : World} {v : Value} {x : AV Ty El} (h : RepA C N w v x) (hx : Qvgi x = true) : v.oneCell' = true:=by
 cases h <;> first | rfl | (simp [Qvgi] at hx; done)

theorem RepA.cells {N : Nm} {w : World} {v : Value} {x : AV Ty El} (h : RepA C N w v x) (hx : (cellsOf x).all oneA = true) (hν : ∀ r p v u,N.G r p v u → u.oneCell' = true) :
  v.cells.size = (cellsOf x).length ∧ (∀ u ∈ v.cells.toList,u.oneCell' = true) ∧ ∀ (j : Nat) u c,v.cells.toList[j]? = some u → (cellsOf x)[j]? = some c → RepA C N w u c:=by
 have hone : ∀ u c,c ∈ cellsOf x → RepA C N w u c → u.oneCell' = true:=fun u c hc hu=>hu.one (List.all_eq_true.1 hx c hc) hν
 have single : cellsOf x = [x] → v.cells = #[v] → v.cells.size = (cellsOf x).length ∧ (∀ u ∈ v.cells.toList,u.oneCell' = true) ∧ ∀ (j : Nat) u c,v.cells.toList[j]? = some u → (cellsOf x)[j]? = some c → RepA C N w u c:=by
  intro e1 e2
  rw [e1,e2]
  refine ⟨rfl,fun u hu=>?_,fun j u c hu hc=>?_⟩
  ·simp at hu; subst hu; exact hone _ x (by rw [e1]; simp) h
  ·cases j with
   | zero=>simp at hu hc; subst hu; subst hc; exact h
   | succ j=>simp at hu
 cases h with
 | agg vs cs hl hh =>
  refine ⟨hl,fun u hu=>?_,fun j u c hu hc=>hh j u c (by simpa [Value.cells] using hu) hc⟩
  obtain ⟨j,hj,he⟩:=List.getElem_of_mem hu
  have hjs : j < vs.size:=by simpa [Value.cells] using hj
  have hjc : j < cs.length:=by omega
  have e' : vs[j]? = some u:=by
   rw [Array.getElem?_eq_getElem hjs]; simp only [Value.cells,Array.getElem_toList] at he; rw [he]
  exact hone u cs[j] (List.getElem_mem hjc) (hh j u cs[j] e' (List.getElem?_eq_getElem hjc))
 | tup vs cs hl hh=>simp [cellsOf,oneA] at hx
 | dead v=>simp [cellsOf,oneA] at hx
 | own r p ver v hD =>
  refine single rfl ?_
  have:=hone v (.own r p ver) (by simp [cellsOf]) (.own r p ver v hD)
  cases v <;> first | rfl | (simp [Value.oneCell'] at this; done)
 | _=>exact single rfl rfl
end
end Lx
namespace Lx
open Go
section
variable {Ty : Type} {El : Ty → Type} {C : Cod Ty El} {P : Program}

theorem Qz8b {i n j s : Nat} (hi : i < n) (hj : j < s) : i * s + j < n * s:=by
 have : (i + 1) * s ≤ n * s:=Nat.mul_le_mul_right _ hi
 rw [Nat.succ_mul] at this; omega

theorem RowI.at {w : World} {K : Nat → Nat → Value → AV Ty El → (Nat → Prop) → Prop} {B : Nat → Prop} {v : Value} {S : Ty} {ys : List (El S)} {e : TypeId} {cells : List Value} {Fs : Nat → Nat → Nat → Prop} (h : RowI C w K B v S ys e cells Fs) :
  ∃ a cap,v = .slice a ys.length cap ∧ ys.length ≤ cap ∧ (a = none → ys.length = 0 ∧ cap = 0) ∧ ∀ ad,a = some ad → ∃ b,ad = ⟨b,0,none⟩ ∧ v.ownBlock = some b ∧ ∀ k,k < ys.length * C.sz S → w.cell? ⟨b,k,none⟩ = cells[k]?:=by
 rcases h.own.2 with ⟨hv,hn⟩ | ⟨g,cap,cur,hv,_,hh,hle,_,hsz,htk⟩
 ·exact ⟨none,0,by rw [hv,hn],by omega,fun _=>⟨hn,rfl⟩,fun ad h=>by cases h⟩
 ·refine ⟨some ⟨g,0,none⟩,cap,hv,hle,(fun h=>by cases h),fun ad h=>⟨g,(Option.some.inj h).symm,by simp [hv,Value.ownBlock],fun k hk=>?_⟩⟩
  rw [← htk,List.getElem?_take_of_lt hk]
  simp [World.cell?,hh]

theorem RowI.cellAt {w : World} {K : Nat → Nat → Value → AV Ty El → (Nat → Prop) → Prop} {B : Nat → Prop} {v : Value} {S : Ty} {ys : List (El S)} {e : TypeId} {cells : List Value} {Fs : Nat → Nat → Nat → Prop} (hC : CodOK P C) (h : RowI C w K B v S ys e cells Fs)
  {a : Addr} {n cap : Nat} (hv : v = .slice (some a) n cap) {i j : Nat} {c : AV Ty El} (hi : i < ys.length) (hc : (C.row S (ys.getD i (C.dflt S)))[j]? = some c) :
  ∃ u,w.cell? ⟨a.block,i * C.sz S + j,none⟩ = some u ∧ K i j u c (Fs i j) ∧ u.oneCell' = true:=by
 obtain ⟨u,hu,hk⟩:=h.cell i j c hi hc
 obtain ⟨a',cap',hv',_,_,hat⟩:=h.at
 rw [hv] at hv'
 simp only [Value.slice.injEq] at hv'
 obtain ⟨rfl,_,_⟩:=hv'
 obtain ⟨b,rfl,_,hcell⟩:=hat a rfl
 refine ⟨u, ?_,hk,h.one u (List.mem_of_getElem? hu)⟩
 rw [hcell _ (Qz8b hi (RowI.sz hC hc)),hu]

theorem Deep.row {N : Nm} {w : World} {d : Nat} {m : Path → Prop} {B : Nat → Prop} {v : Value} {S : Ty} {ys : List (El S)} (h : Deep C N w d m B v S ys) :
  ∃ K,RowD C w K B v S ys ∧ ∀ i j u c F,K i j u c F → (∀ U zs,c ≠ .sl U zs) → flatK C N w u c F:=by
 cases d with
 | zero=>exact ⟨_,h,fun i j u c F hk _=>hk⟩
 | succ d =>
  refine ⟨_,h,fun i j u c F hk hc=>?_⟩
  cases c with
  | sl U zs=>exact absurd rfl (hc U zs)
  | _=>exact hk

theorem Deep.row' {N : Nm} {w : World} {d : Nat} {m : Path → Prop} {B : Nat → Prop} {v : Value} {S : Ty} {ys : List (El S)} (h : Deep C N w d m B v S ys) : ∃ K,RowD C w K B v S ys ∧ True:=by
 obtain ⟨K,h,_⟩:=h.row
 exact ⟨K,h,trivial⟩
theorem Deep.hgt (hC : CodOK P C) {N : Nm} {w : World} : ∀ (d d' : Nat) (m : Path → Prop) (B : Nat → Prop) (v : Value) (S : Ty) (ys : List (El S)),C.hgt S ≤ d → C.hgt S ≤ d' → (∀ q,¬ m q) → Deep C N w d m B v S ys → Deep C N w d' m B v S ys:=by
 have nosl : ∀ {S : Ty} {y : El S} {j : Nat} {U : Ty} {zs : List (El U)},C.hgt S = 0 → (C.row S y)[j]? = some (.sl U zs) → False:=fun h0 hc=>by
  have:=hC.hgt _ _ _ _ (List.mem_of_getElem? hc); omega
 intro d
 induction d with
 | zero =>
  intro d' m B v S ys h1 h2 hm h
  have h0 : C.hgt S = 0:=by omega
  cases d' with
  | zero=>exact h
  | succ d' =>
   obtain ⟨e,cells,Fs,h⟩:=h
   refine ⟨e,cells,Fs,h.ty,h.own,h.one,h.blk,h.sep0,h.sep,fun i j c hi hc=>?_⟩
   obtain ⟨u,hu,hk⟩:=h.cell i j c hi hc
   refine ⟨u,hu, ?_⟩
   cases c with
   | sl U zs=>exact (nosl h0 hc).elim
   | _=>exact hk
 | succ d ih =>
  intro d' m B v S ys h1 h2 hm h
  obtain ⟨e,cells,Fs,h⟩:=h
  cases d' with
  | zero =>
   have h0 : C.hgt S = 0:=by omega
   refine ⟨e,cells,Fs,h.ty,h.own,h.one,h.blk,h.sep0,h.sep,fun i j c hi hc=>?_⟩
   obtain ⟨u,hu,hk⟩:=h.cell i j c hi hc
   refine ⟨u,hu, ?_⟩
   cases c with
   | sl U zs=>exact (nosl h0 hc).elim
   | _=>exact hk
  | succ d' =>
   refine ⟨e,cells,Fs,h.ty,h.own,h.one,h.blk,h.sep0,h.sep,fun i j c hi hc=>?_⟩
   obtain ⟨u,hu,hk⟩:=h.cell i j c hi hc
   refine ⟨u,hu, ?_⟩
   cases c with
   | sl U zs =>
    have:=hC.hgt _ _ _ _ (List.mem_of_getElem? hc)
    refine hk.imp id (fun hk=>⟨hk.1,ih d' _ _ _ _ _ (by omega) (by omega) (fun q=>hm _) hk.2⟩)
   | _=>exact hk

theorem RepA.mkSl (hC : CodOK P C) {N : Nm} {w : World} {b o n cap : Nat} {S : Ty} {ys : List (El S)} (hn : n = ys.length) (hle : n ≤ cap) (hro : 0 < n → N.ro b)
  (hc : ∀ i j c,i < n → (C.row S (ys.getD i (C.dflt S)))[j]? = some c → ∃ u,w.cell? ⟨b,o + (i * C.sz S + j),none⟩ = some u ∧ RepA C N w u c) : RepA C N w (.slice (some ⟨b,o,none⟩) n cap) (.sl S ys):=by
 rcases Nat.eq_zero_or_pos n with h0 | h0
 ·have : ys = []:=List.eq_nil_of_length_eq_zero (by omega)
  subst this
  subst h0
  exact .sl0 S _ cap
 ·refine .sl S ys b o n cap (fun i j=>(w.cell? ⟨b,o + (i * C.sz S + j),none⟩).getD undef) hn hle (hro h0) (fun i j hi hj=>?_) (fun i j c hi hj=>?_)
  ·obtain ⟨c,hcc⟩:=RowI.getc hC (ys.getD i (C.dflt S)) hj
   obtain ⟨u,hu,_⟩:=hc i j c hi hcc
   rw [hu]; rfl
  ·obtain ⟨u,hu,hr⟩:=hc i j c hi hj
   rw [hu]; exact hr

theorem Deep.sl (hC : CodOK P C) {N N' : Nm} {w : World} (hL : Le N N' w w) : ∀ (d : Nat) (m : Path → Prop) (B : Nat → Prop) (v : Value) (S : Ty) (ys : List (El S)),Deep C N w d m B v S ys → (∀ q,¬ m q) → (∀ b,B b → N'.ro b) → RepA C N' w v (.sl S ys):=by
 have key : ∀ {K : Nat → Nat → Value → AV Ty El → (Nat → Prop) → Prop} {B : Nat → Prop} {v : Value} {S : Ty} {ys : List (El S)},RowD C w K B v S ys → (∀ b,B b → N'.ro b) → (∀ i j u c F,(∀ b,F b → B b) → K i j u c F → RepA C N' w u c) → RepA C N' w v (.sl S ys):=by
  intro K B v S ys h hB hK
  obtain ⟨e,cells,Fs,h⟩:=h
  obtain ⟨a,cap,hv,hle,ha,hat⟩:=h.at
  cases a with
  | none =>
   have : ys = []:=List.eq_nil_of_length_eq_zero (ha rfl).1
   subst this
   rw [hv]; exact .sl0 S _ cap
  | some ad =>
   obtain ⟨b,rfl,hb,hcell⟩:=hat ad rfl
   rw [hv]
   refine RepA.mkSl hC rfl hle (fun _=>hB b ((h.blk b).2 (.inl hb))) (fun i j c hi hc=>?_)
   obtain ⟨u,hu,hk,_⟩:=h.cellAt hC hv hi hc
   refine ⟨u,by rw [Nat.zero_add]; exact hu,hK i j u c _ (fun b' hb'=>(h.blk b').2 (.inr ⟨i,j,hi,RowI.sz hC hc,hb'⟩)) hk⟩
 intro d
 induction d with
 | zero=>exact fun m B v S ys h _ hB=>key h hB (fun i j u c F _ hk=>hk.1.mono hL)
 | succ d ih =>
  intro m B v S ys h hm hB
  refine key h hB (fun i j u c F hF hk=>?_)
  cases c with
  | sl U zs=>exact hk.elim (fun hk=>absurd hk.1 (hm _)) (fun hk=>ih _ F u U zs hk.2 (fun q=>hm _) (fun b hb=>hB b (hF b hb)))
  | _=>exact hk.1.mono hL

theorem Deep.freeze (hC : CodOK P C) {N : Nm} {w : World} : ∀ (d' d : Nat) (m : Path → Prop) (B : Nat → Prop) (v : Value) (S : Ty) (ys : List (El S)),d' ≤ d → Deep C N w d m B v S ys → (∀ q,¬ m q) →
  ∃ B' : Nat → Prop,(∀ b,B' b → B b) ∧ (∀ b,v.ownBlock = some b → B' b) ∧ ∀ N',Le N N' w w → (∀ b,B b → ¬ B' b → N'.ro b) → Deep C N' w d' m B' v S ys:=by
 intro d'
 induction d' with
 | zero =>
  intro d m B v S ys _ h hm
  refine ⟨fun b=>v.ownBlock = some b,fun b hb=>?_,fun b hb=>hb,fun N' hL hro=>?_⟩
  ·obtain ⟨K,⟨e,cells,Fs,h⟩,_⟩:=h.row
   exact (h.blk b).2 (.inl hb)
  ·have mk : ∀ {K : Nat → Nat → Value → AV Ty El → (Nat → Prop) → Prop},RowD C w K B v S ys → (∀ i j u c F,(∀ b,F b → N'.ro b) → K i j u c F → RepA C N' w u c) → Deep C N' w 0 m (fun b=>v.ownBlock = some b) v S ys:=by
    intro K h hK
    obtain ⟨e,cells,Fs,h⟩:=h
    refine ⟨e,cells,fun _ _ _=>False,h.ty,h.own,h.one,fun b=>⟨.inl,fun h=>h.elim id (fun ⟨_,_,_,_,hf⟩=>hf.elim)⟩,fun _ _ _ _ _ hf=>hf.elim,fun _ _ _ _ _ _ _ _ _ hf=>hf.elim,fun i j c hi hc=>?_⟩
    obtain ⟨u,hu,hk⟩:=h.cell i j c hi hc
    have hj:=RowI.sz hC hc
    exact ⟨u,hu,hK i j u c _ (fun b hb=>hro b ((h.blk b).2 (.inr ⟨i,j,hi,hj,hb⟩)) (h.sep0 i j b hi hj hb)) hk,fun _ hf=>hf.elim⟩
   cases d with
   | zero=>exact mk h (fun i j u c F _ hk=>hk.1.mono hL)
   | succ d =>
    refine mk h (fun i j u c F hF hk=>?_)
    cases c with
    | sl U zs=>exact hk.elim (fun hk=>absurd hk.1 (hm _)) (fun hk=>Deep.sl hC hL d _ F u U zs hk.2 (fun q=>hm _) hF)
    | _=>exact hk.1.mono hL
 | succ d' ih =>
  intro d m B v S ys hd h hm
  cases d with
  | zero=>omega
  | succ d =>
   obtain ⟨e,cells,Fs,h⟩:=h
   have ex : ∀ i j,∃ B'' : Nat → Prop,(∀ b,B'' b → Fs i j b) ∧ ∀ N',Le N N' w w → (∀ b,Fs i j b → ¬ B'' b → N'.ro b) → ∀ u c,i < ys.length → (C.row S (ys.getD i (C.dflt S)))[j]? = some c → cells[i * C.sz S + j]? = some u → deepK C N w (Deep C N w d) m i j u c (Fs i j) → deepK C N' w (Deep C N' w d') m i j u c B'':=by
    intro i j
    by_cases hex : ∃ u U zs,i < ys.length ∧ (C.row S (ys.getD i (C.dflt S)))[j]? = some (.sl U zs) ∧ cells[i * C.sz S + j]? = some u ∧ deepK C N w (Deep C N w d) m i j u (.sl U zs) (Fs i j)
    ·obtain ⟨u,U,zs,hi,hc,hu,hk⟩:=hex
     have hk':=hk.resolve_left (fun hk=>hm _ hk.1)
     obtain ⟨B'',h1,_,h2⟩:=ih d _ (Fs i j) u U zs (by omega) hk'.2 (fun q=>hm _)
     refine ⟨B'',h1,fun N' hL hro u' c _ hc' hu' _=>?_⟩
     rw [hc] at hc'
     rw [hu] at hu'
     obtain rfl:=Option.some.inj hc'
     obtain rfl:=Option.some.inj hu'
     exact .inr ⟨hk'.1,h2 N' hL hro⟩
    ·refine ⟨Fs i j,fun _ h=>h,fun N' hL _ u c hi hc hu hk=>?_⟩
     cases c with
     | sl U zs=>exact absurd ⟨u,U,zs,hi,hc,hu,hk⟩ hex
     | _=>exact flatK.mono hL hk
   let G : Nat → Nat → Nat → Prop:=fun i j=>Classical.choose (ex i j)
   have hG : ∀ i j b,G i j b → Fs i j b:=fun i j=>(Classical.choose_spec (ex i j)).1
   refine ⟨fun b=>v.ownBlock = some b ∨ ∃ i j,i < ys.length ∧ j < C.sz S ∧ G i j b,fun b hb=>(h.blk b).2 (hb.imp id (fun ⟨i,j,h1,h2,h3⟩=>⟨i,j,h1,h2,hG i j b h3⟩)),fun b hb=>.inl hb,fun N' hL hro=>?_⟩
   refine ⟨e,cells,G,h.ty,h.own,h.one,fun b=>Iff.rfl,fun i j b hi hj hb=>h.sep0 i j b hi hj (hG i j b hb),fun i j i' j' b hi hj hi' hj' hb hb'=>h.sep i j i' j' b hi hj hi' hj' (hG i j b hb) (hG i' j' b hb'),fun i j c hi hc=>?_⟩
   obtain ⟨u,hu,hk⟩:=h.cell i j c hi hc
   have hj:=RowI.sz hC hc
   refine ⟨u,hu,(Classical.choose_spec (ex i j)).2 N' hL (fun b hb hn=>hro b ((h.blk b).2 (.inr ⟨i,j,hi,hj,hb⟩)) ?_) u c hi hc hu hk⟩
   rintro (h3 | ⟨i',j',hi',hj',h3⟩)
   ·exact h.sep0 i j b hi hj hb h3
   ·obtain ⟨rfl,rfl⟩:=h.sep i j i' j' b hi hj hi' hj' hb (hG i' j' b h3)
    exact hn h3
end
end Lx
namespace Lx
open Go
section
variable {Ty : Type} {El : Ty → Type} {C : Cod Ty El} {P : Program}

theorem Qkjm {α : Type} (cs ds : List α) (off j : Nat) (h : off + ds.length ≤ cs.length) : (Qltv cs off ds)[j]? = if j < off then cs[j]? else if j < off + ds.length then ds[j - off]? else cs[j]?:=by
 unfold Qltv
 by_cases h1 : j < off
 ·rw [if_pos h1,List.getElem?_append_left (by simp; omega),List.getElem?_take_of_lt h1]
 ·rw [if_neg h1,List.getElem?_append_right (by simp; omega)]
  have hl : (cs.take off).length = off:=by simp; omega
  rw [hl]
  by_cases h2 : j < off + ds.length
  ·rw [if_pos h2,List.getElem?_append_left (by omega)]
  ·rw [if_neg h2,List.getElem?_append_right (by omega),List.getElem?_drop]
   congr 1; omega
theorem Qlai {α : Type} (cs ds : List α) (off : Nat) (h : off + ds.length ≤ cs.length) : (Qltv cs off ds).length = cs.length:=by
 unfold Qltv; simp; omega

theorem Qfvb {T : Ty} {xs : List (El T)} {i : Nat} {y : El T} (hi : i < xs.length) (k : Nat) : C.row T ((xs.set i y).getD k (C.dflt T)) = if k = i then C.row T y else C.row T (xs.getD k (C.dflt T)):=by
 by_cases e : k = i
 ·subst e; simp [List.getD,hi]
 ·rw [if_neg e]; congr 1; simp [List.getD,List.getElem?_set_ne (fun h=>e h.symm)]

theorem RowI.sub {w w' : World} {K K' : Nat → Nat → Value → AV Ty El → (Nat → Prop) → Prop} {B : Nat → Prop} {v : Value} {T : Ty} {xs : List (El T)} {e : TypeId} {cells : List Value} {Fs : Nat → Nat → Nat → Prop} (hC : CodOK P C) (h : RowI C w K B v T xs e cells Fs)
  {i j : Nat} (hi : i < xs.length) (hj : j < C.sz T) {y : El T} {c' : AV Ty El} (hy : C.row T y = Qltv (C.row T (xs.getD i (C.dflt T))) j [c']) {Fn : Nat → Prop} (hw : ∀ b,v.ownBlock = some b → w'.heap[b]? = w.heap[b]?)
  (hFn : ∀ b,Fn b → Fs i j b ∨ ¬ B b) (hK : ∀ i' j' u c,i' < xs.length → j' < C.sz T → ¬ (i' = i ∧ j' = j) → K i' j' u c (Fs i' j') → K' i' j' u c (Fs i' j')) (hnew : ∀ u,cells[i * C.sz T + j]? = some u → K' i j u c' Fn) :
  RowI C w' K' (fun b=>(B b ∧ ¬ Fs i j b) ∨ Fn b) v T (xs.set i y) e cells (fun i' j'=>if i' = i ∧ j' = j then Fn else Fs i' j'):=by
 have hB : ∀ i j b,i < xs.length → j < C.sz T → Fs i j b → B b:=fun i j b h1 h2 h3=>(h.blk b).2 (.inr ⟨i,j,h1,h2,h3⟩)
 refine ⟨h.ty, ?_,h.one,fun b=>?_,fun i' j' b hi' hj' hb=>?_,fun i1 j1 i2 j2 b h1 h2 h3 h4 hb hb'=>?_,fun i' j' c hi' hc=>?_⟩
 ·rw [List.length_set]
  refine ⟨h.own.1, ?_⟩
  rcases h.own.2 with hn | ⟨g,cap,cur,hv,hg,hh,rest⟩
  ·exact .inl hn
  ·exact .inr ⟨g,cap,cur,hv,hg,(hw g (by simp [hv,Value.ownBlock])).trans hh,rest⟩
 ·rw [List.length_set]
  constructor
  ·rintro (⟨h1,h2⟩ | h1)
   ·rcases (h.blk b).1 h1 with h3 | ⟨i',j',h3,h4,h5⟩
    ·exact .inl h3
    ·refine .inr ⟨i',j',h3,h4, ?_⟩
     rw [if_neg]
     ·exact h5
     ·rintro ⟨rfl,rfl⟩; exact h2 h5
   ·exact .inr ⟨i,j,hi,hj,by rw [if_pos ⟨rfl,rfl⟩]; exact h1⟩
  ·rintro (h1 | ⟨i',j',h3,h4,h5⟩)
   ·exact .inl ⟨(h.blk b).2 (.inl h1),fun hf=>h.sep0 i j b hi hj hf h1⟩
   ·split at h5
    ·exact .inr h5
    ·rename_i hne
     refine .inl ⟨hB i' j' b h3 h4 h5,fun hf=>hne ?_⟩
     exact h.sep i' j' i j b h3 h4 hi hj h5 hf
 ·rw [List.length_set] at hi'
  split at hb
  ·rcases hFn b hb with h1 | h1
   ·exact h.sep0 i j b hi hj h1
   ·exact fun e=>h1 ((h.blk b).2 (.inl e))
  ·exact h.sep0 i' j' b hi' hj' hb
 ·rw [List.length_set] at h1 h3
  split at hb
  ·rename_i e1
   split at hb'
   ·rename_i e2
    exact ⟨e1.1.trans e2.1.symm,e1.2.trans e2.2.symm⟩
   ·rename_i e2
    rcases hFn b hb with h5 | h5
    ·exact absurd (h.sep i2 j2 i j b h3 h4 hi hj hb' h5) e2
    ·exact absurd (hB i2 j2 b h3 h4 hb') h5
  ·rename_i e1
   split at hb'
   ·rename_i e2
    rcases hFn b hb' with h5 | h5
    ·exact absurd (h.sep i1 j1 i j b h1 h2 hi hj hb h5) e1
    ·exact absurd (hB i1 j1 b h1 h2 hb) h5
   ·exact h.sep i1 j1 i2 j2 b h1 h2 h3 h4 hb hb'
 ·rw [List.length_set] at hi'
  have hjs:=RowI.sz hC hc
  rw [Qfvb hi] at hc
  by_cases e : i' = i ∧ j' = j
  ·obtain ⟨rfl,rfl⟩:=e
   rw [if_pos rfl,hy,Qkjm _ _ _ _ (by rw [hC.len]; simp; omega)] at hc
   simp at hc
   subst hc
   obtain ⟨c0,hc0⟩:=RowI.getc hC (xs.getD i' (C.dflt T)) hj
   obtain ⟨u,hu,_⟩:=h.cell i' j' c0 hi' hc0
   exact ⟨u,hu,by rw [if_pos ⟨rfl,rfl⟩]; exact hnew u hu⟩
  ·have hc' : (C.row T (xs.getD i' (C.dflt T)))[j']? = some c:=by
    split at hc
    ·rename_i e1
     subst e1
     rw [hy,Qkjm _ _ _ _ (by rw [hC.len]; simp; omega)] at hc
     split at hc
     ·exact hc
     ·rename_i h1
      split at hc
      ·rename_i h2
       simp at h2
       exact absurd ⟨rfl,by omega⟩ e
      ·exact hc
    ·exact hc
   obtain ⟨u,hu,hk⟩:=h.cell i' j' c hi' hc'
   exact ⟨u,hu,by rw [if_neg e]; exact hK i' j' u c hi' hjs e hk⟩

theorem Deep.blkEq {N : Nm} {w : World} {d : Nat} {m : Path → Prop} {B B' : Nat → Prop} {v : Value} {S : Ty} {ys : List (El S)} (h : Deep C N w d m B v S ys) (hB : ∀ b,B' b ↔ B b) : Deep C N w d m B' v S ys:=Deep.blkIff hB h
theorem Deep.mskEq {N : Nm} {w : World} {d : Nat} {m m' : Path → Prop} {B : Nat → Prop} {v : Value} {S : Ty} {ys : List (El S)} (h : Deep C N w d m B v S ys) (hm : ∀ q,m' q ↔ m q) : Deep C N w d m' B v S ys:=by
 have : m' = m:=funext fun q=>propext (hm q)
 rw [this]; exact h

theorem Q9z4 {S T : Ty} {xs : List (El S)} {ys : List (El T)} (h : castL C S T xs = some ys) : ∃ e : S = T,e ▸ xs = ys:=by
 unfold castL at h
 split at h
 ·rename_i e _
  simp only [Option.some.injEq] at h
  exact ⟨e,h⟩
 ·cases h
theorem Q4vv {S : Ty} {xs ys : List (El S)} (h : castL C S S xs = some ys) : ys = xs:=by
 obtain ⟨e,h⟩:=Q9z4 h
 exact h.symm

theorem Deep.focus (hC : CodOK P C) {N : Nm} {w : World} : ∀ (p : Path) (d : Nat) (m : Path → Prop) (B : Nat → Prop) (v h : Value) (T S : Ty) (xs : List (El T)) (ys : List (El S)),Deep C N w d m B v T xs → (∀ q,¬ m q) → p.length ≤ d → hdr C w T xs v p = some h → subA C T xs p = some ⟨S,ys⟩ →
  ∃ B' : Nat → Prop,(∀ b,B' b → B b) ∧ (p = [] → ∀ b,B b → B' b) ∧ (p ≠ [] → ∀ b,v.ownBlock = some b → ¬ B' b) ∧ (p ≠ [] → h.oneCell' = true) ∧ Deep C N w (d - p.length) mskNo B' h S ys ∧
   (∀ (N' : Nm) (w' : World) (B'' : Nat → Prop) (ys' : List (El S)) (xs' : List (El T)),Le N N' w w' → (∀ b,B b → ¬ B' b → w'.heap[b]? = w.heap[b]?) → setA C T xs p S ys' = some xs' → Deep C N' w' (d - p.length) mskNo B'' h S ys' → (∀ b,B'' b → B' b ∨ ¬ B b) →
    Deep C N' w' d mskNo (fun b=>(B b ∧ ¬ B' b) ∨ B'' b) v T xs') ∧
   (p ≠ [] → ∀ (N' : Nm) (w' : World) (ys' : List (El S)) (xs' : List (El T)),Le N N' w w' → (∀ b,B b → ¬ B' b → w'.heap[b]? = w.heap[b]?) → setA C T xs p S ys' = some xs' →
    Deep C N' w' d (fun q=>q = p) (fun b=>B b ∧ ¬ B' b) v T xs') ∧
   (∀ (w' : World) (ys' : List (El S)) (xs' : List (El T)),(∀ b,B b → ¬ B' b → w'.heap[b]? = w.heap[b]?) → setA C T xs p S ys' = some xs' → hdr C w' T xs' v p = some h ∧ subA C T xs' p = some ⟨S,ys'⟩):=by
 intro p
 induction p with
 | nil =>
  intro d m B v h T S xs ys hd hm hp hh hs
  simp only [hdr,Option.some.injEq] at hh
  simp only [subA,Option.some.injEq,Sigma.mk.injEq] at hs
  obtain ⟨rfl,hs⟩:=hs
  have hs:=eq_of_heq hs
  subst hs; subst hh
  refine ⟨B,fun _ h=>h,fun _ _ h=>h,fun h=>absurd rfl h,fun h=>absurd rfl h,hd.mskEq (fun q=>⟨fun h=>h.elim,fun h=>hm q h⟩),fun N' w' B'' ys' xs' hL hw hset hd' hB''=>?_,fun h=>absurd rfl h,fun w' ys' xs' _ hset=>?_⟩
  ·simp only [setA] at hset
   have:=Q4vv hset
   subst this
   exact hd'.blkEq (fun b=>⟨fun h=>h.elim (fun h=>absurd h.1 h.2) id,.inr⟩)
  ·simp only [setA] at hset
   have:=Q4vv hset
   subst this
   exact ⟨by cases v <;> rfl,rfl⟩
 | cons q p ih =>
  obtain ⟨i,j⟩:=q
  intro d m B v h T S xs ys hd hm hp hh hs
  cases d with
  | zero=>simp at hp
  | succ d =>
   obtain ⟨e,cells,Fs,hr⟩:=hd
   unfold hdr at hh
   split at hh
   case h_2=>cases hh
   rename_i a n cap
   split at hh
   case isFalse=>cases hh
   rename_i hi
   split at hh
   case h_2=>cases hh
   rename_i U zs hc
   split at hh
   case h_2=>cases hh
   rename_i u hu
   simp only [subA,hc] at hs
   have hj:=RowI.sz hC hc
   obtain ⟨u',hu',hk,hone⟩:=hr.cellAt hC rfl hi hc
   rw [hu] at hu'
   obtain rfl:=Option.some.inj hu'
   have hk:=(hk.resolve_left (fun hk=>hm _ hk.1)).2
   obtain ⟨u2,hu2,_⟩:=hr.cell i j _ hi hc
   have hcu : cells[i * C.sz T + j]? = some u:=by
    obtain ⟨a',cap',hv',_,_,hat⟩:=hr.at
    simp only [Value.slice.injEq] at hv'
    obtain ⟨rfl,_,_⟩:=hv'
    obtain ⟨b,rfl,_,hcell⟩:=hat a rfl
    rw [← hcell _ (Qz8b hi hj)]; exact hu
   obtain ⟨B',h1,h0,h2,h2',h3,h4,h5,h6⟩:=ih d _ (Fs i j) u h U S zs ys hk (fun q=>hm _) (by simpa using hp) hh hs
   have hFB : ∀ b,Fs i j b → B b:=fun b hb=>(hr.blk b).2 (.inr ⟨i,j,hi,hj,hb⟩)
   have hsetInv : ∀ (ys' : List (El S)) (xs' : List (El T)),setA C T xs ((i,j) :: p) S ys' = some xs' → ∃ zs' y,setA C U zs p S ys' = some zs' ∧ C.row T y = Qltv (C.row T (xs.getD i (C.dflt T))) j [.sl U zs'] ∧ xs' = xs.set i y:=by
    intro ys' xs' hset
    simp only [setA,hc] at hset
    split at hset
    ·rename_i zs' hz
     split at hset
     ·rename_i y hy
      simp only [Option.some.injEq] at hset
      exact ⟨zs',y,hz,hC.unrow _ _ _ hy,hset.symm⟩
     ·cases hset
    ·cases hset
   have hone' : h.oneCell' = true:=by
    cases p with
    | nil=>simp only [hdr,Option.some.injEq] at hh; subst hh; exact hone
    | cons q p=>exact h2' (by simp)
   refine ⟨B',fun b hb=>hFB b (h1 b hb),(fun h=>by cases h),fun _ b hb hb'=>hr.sep0 i j b hi hj (h1 b hb') hb,fun _=>hone',by simpa using h3,fun N' w' B'' ys' xs' hL hw hset hd' hB''=>?_,fun _ N' w' ys' xs' hL hw hset=>?_,fun w' ys' xs' hw hset=>?_⟩
   ·obtain ⟨zs',y,hz,hy,rfl⟩:=hsetInv ys' xs' hset
    have hsub:=h4 N' w' B'' ys' zs' hL (fun b hb hn=>hw b (hFB b hb) hn) hz (by simpa using hd') (fun b hb=>(hB'' b hb).imp id (fun hn hb'=>hn (hFB b hb')))
    have hrow:=hr.sub (K':=fun i j u c F=>deepK C N' w' (Deep C N' w' d) mskNo i j u c F) (w':=w') (Fn:=fun b=>(Fs i j b ∧ ¬ B' b) ∨ B'' b) hC hi hj hy
     (fun b hb=>hw b ((hr.blk b).2 (.inl hb)) (fun hb'=>hr.sep0 i j b hi hj (h1 b hb') hb))
     (fun b hb=>hb.elim (fun hb=>.inl hb.1) (fun hb=>(hB'' b hb).imp (h1 b) id))
     (fun i' j' u c hi' hj' hne hk=>by
      have hw2 : ∀ b,Fs i' j' b → w'.heap[b]? = w.heap[b]?:=fun b hb=>hw b ((hr.blk b).2 (.inr ⟨i',j',hi',hj',hb⟩)) (fun hb'=>hne (hr.sep i' j' i j b hi' hj' hi hj hb (h1 b hb')))
      cases c with
      | sl U' zs'' =>
       refine .inr ⟨fun h=>h, ?_⟩
       exact (Deep.mono hC hL d _ _ _ _ _ (hk.resolve_left (fun hk=>hm _ hk.1)).2 hw2).mskEq (fun q=>⟨fun h=>h.elim,fun h=>hm _ h⟩)
      | _=>exact flatK.mono hL hk)
     (fun u1 hu1=>by
      rw [hcu] at hu1
      obtain rfl:=Option.some.inj hu1
      exact .inr ⟨fun h=>h,hsub⟩)
    refine Deep.blkEq (⟨e,cells,_,hrow⟩ : Deep C N' w' (d + 1) mskNo _ _ T _) (fun b=>?_)
    constructor
    ·rintro (⟨h6,h7⟩ | h6)
     ·by_cases h8 : Fs i j b
      ·exact .inr (.inl ⟨h8,h7⟩)
      ·exact .inl ⟨h6,h8⟩
     ·exact .inr (.inr h6)
    ·rintro (⟨h6,h7⟩ | ⟨h6,h7⟩ | h6)
     ·exact .inl ⟨h6,fun h8=>h7 (h1 b h8)⟩
     ·exact .inl ⟨hFB b h6,h7⟩
     ·exact .inr h6
   ·obtain ⟨zs',y,hz,hy,rfl⟩:=hsetInv ys' xs' hset
    have other : ∀ i' j' u c,i' < xs.length → j' < C.sz T → ¬ (i' = i ∧ j' = j) → deepK C N w (Deep C N w d) m i' j' u c (Fs i' j') → deepK C N' w' (Deep C N' w' d) (fun q=>q = (i,j) :: p) i' j' u c (Fs i' j'):=by
     intro i' j' u c hi' hj' hne hk
     have hw2 : ∀ b,Fs i' j' b → w'.heap[b]? = w.heap[b]?:=fun b hb=>hw b ((hr.blk b).2 (.inr ⟨i',j',hi',hj',hb⟩)) (fun hb'=>hne (hr.sep i' j' i j b hi' hj' hi hj hb (h1 b hb')))
     cases c with
     | sl U' zs'' =>
      refine .inr ⟨fun h=>hne (by simpa using (List.cons.inj h).1), ?_⟩
      refine (Deep.mono hC hL d _ _ _ _ _ (hk.resolve_left (fun hk=>hm _ hk.1)).2 hw2).mskEq (fun q=>⟨fun h=>?_,fun h=>absurd h (hm _)⟩)
      exact absurd (by simpa using (List.cons.inj h).1) hne
     | _=>exact flatK.mono hL hk
    have hown : ∀ b,(Value.slice (some a) n cap).ownBlock = some b → w'.heap[b]? = w.heap[b]?:=fun b hb=>hw b ((hr.blk b).2 (.inl hb)) (fun hb'=>hr.sep0 i j b hi hj (h1 b hb') hb)
    by_cases hp0 : p = []
    ·subst hp0
     have hB' : ∀ b,B' b ↔ Fs i j b:=fun b=>⟨h1 b,h0 rfl b⟩
     have hrow:=hr.sub (K':=fun i' j' u c F=>deepK C N' w' (Deep C N' w' d) (fun q=>q = [(i,j)]) i' j' u c F) (w':=w') (Fn:=fun _=>False) hC hi hj hy hown (fun b hb=>hb.elim) other
      (fun u1 hu1=>.inl ⟨rfl,fun _ h=>h⟩)
     refine Deep.blkEq (⟨e,cells,_,hrow⟩ : Deep C N' w' (d + 1) _ _ _ T _) (fun b=>?_)
     rw [hB' b]; simp
    ·have hsub:=h5 hp0 N' w' ys' zs' hL (fun b hb hn=>hw b (hFB b hb) hn) hz
     have hrow:=hr.sub (K':=fun i' j' u c F=>deepK C N' w' (Deep C N' w' d) (fun q=>q = (i,j) :: p) i' j' u c F) (w':=w') (Fn:=fun b=>Fs i j b ∧ ¬ B' b) hC hi hj hy hown (fun b hb=>.inl hb.1) other
      (fun u1 hu1=>by
       rw [hcu] at hu1
       obtain rfl:=Option.some.inj hu1
       refine .inr ⟨fun h=>hp0 (by simpa using h.symm), ?_⟩
       exact hsub.mskEq (fun q=>by simp))
     refine Deep.blkEq (⟨e,cells,_,hrow⟩ : Deep C N' w' (d + 1) _ _ _ T _) (fun b=>?_)
     constructor
     ·rintro ⟨h6,h7⟩
      by_cases h8 : Fs i j b
      ·exact .inr ⟨h8,h7⟩
      ·exact .inl ⟨h6,h8⟩
     ·rintro (⟨h6,h7⟩ | ⟨h6,h7⟩)
      ·exact ⟨h6,fun h8=>h7 (h1 b h8)⟩
      ·exact ⟨hFB b h6,h7⟩
   ·obtain ⟨zs',y,hz,hy,rfl⟩:=hsetInv ys' xs' hset
    have hcell' : (C.row T ((xs.set i y).getD i (C.dflt T)))[j]? = some (.sl U zs'):=by
     rw [Qfvb hi,if_pos rfl,hy,Qkjm _ _ _ _ (by rw [hC.len]; simp; omega)]
     simp
    obtain ⟨e1,e2⟩:=h6 w' ys' zs' (fun b hb hn=>hw b (hFB b hb) hn) hz
    have ha : w'.cell? ⟨a.block,i * C.sz T + j,none⟩ = some u:=by
     rw [Q9r2 (hw a.block ((hr.blk _).2 (.inl rfl)) (fun hb'=>hr.sep0 i j _ hi hj (h1 _ hb') rfl))]
     exact hu
    refine ⟨?_, ?_⟩
    ·show (if i < (xs.set i y).length then _ else none) = _
     rw [if_pos (by rw [List.length_set]; exact hi),hcell']
     simp only [ha]
     exact e1
    ·simp only [subA,hcell']
     exact e2
end
end Lx
namespace Lx
open Go
section
variable {Ty : Type} {El : Ty → Type} {C : Cod Ty El} {P : Program}

theorem Qdb4 {w : World} {T : Ty} {xs : List (El T)} {a : Addr} {n cap i j : Nat} {p : Path} : hdr C w T xs (.slice (some a) n cap) ((i,j) :: p) = if i < xs.length then match (C.row T (xs.getD i (C.dflt T)))[j]? with
  | some (.sl S ys)=>match w.cell? ⟨a.block,i * C.sz T + j,none⟩ with
   | some u=>hdr C w S ys u p
   | none=>none
  | _=>none
 else none:=rfl
theorem Qif0 {w : World} : ∀ (p q : Path) (T S : Ty) (xs : List (El T)) (ys : List (El S)) (v h : Value),hdr C w T xs v p = some h → subA C T xs p = some ⟨S,ys⟩ → hdr C w T xs v (p ++ q) = hdr C w S ys h q
 | [],q,T,S,xs,ys,v,h,hh,hs=>by
  simp only [hdr,Option.some.injEq] at hh
  simp only [subA,Option.some.injEq,Sigma.mk.injEq] at hs
  obtain ⟨rfl,hs⟩:=hs
  have hs:=eq_of_heq hs
  subst hs; subst hh
  rfl
 | (i,j) :: p,q,T,S,xs,ys,v,h,hh,hs=>by
  rw [List.cons_append]
  unfold hdr at hh
  cases v with
  | slice A n cap =>
   cases A with
   | none=>cases hh
   | some a =>
    simp only at hh
    split at hh
    ·rename_i hi
     split at hh
     ·rename_i U zs hc
      simp only [subA,hc] at hs
      split at hh
      ·rename_i u hu
       rw [Qdb4,if_pos hi,hc]
       simp only [hu]
       exact Qif0 p q U S zs ys u h hh hs
      ·cases hh
     ·cases hh
    ·cases hh
  | _=>cases hh

theorem Qy3i {hp : Nat → AObj Ty El} {r : Nat} {p : Path} {v : Nat} {R : Row Ty El} (h : rowAt C hp r p v = some R) :
  ∃ T xs d vr,hp r = .row T xs d vr R.vn .no ∧ subA C T xs p = some ⟨R.T,R.xs⟩ ∧ p.length ≤ d ∧ R.d = d - p.length ∧ v = verAt p vr R.vn:=by
 unfold rowAt at h
 split at h
 case h_2=>cases h
 rename_i T xs d vr vn m hr
 split at h
 case h_2=>cases h
 split at h
 ·split at h
  ·rename_i e
   simp only [Option.some.injEq] at h
   subst h
   exact ⟨T,xs,d,vr,hr,rfl,Nat.zero_le _,rfl,e⟩
  ·cases h
 ·rename_i q p
  split at h
  ·rename_i e
   split at h
   ·rename_i hl
    split at h
    ·rename_i s hs
     simp only [Option.some.injEq] at h
     subst h
     exact ⟨T,xs,d,vr,hr,hs,hl,rfl,e⟩
    ·cases h
   ·cases h
  ·cases h

theorem Q2c6 (hC : CodOK P C) {N : Nm} {hp : Nat → AObj Ty El} {w : World} (hH : HR C N hp w) {r : Nat} {p : Path} {v : Nat} {R : Row Ty El} (h : rowAt C hp r p v = some R) {u : Value} (hu : N.G r p v u) :
  ∃ T xs d vr,hp r = .row T xs d vr R.vn .no ∧ subA C T xs p = some ⟨R.T,R.xs⟩ ∧ p.length ≤ d ∧ R.d = d - p.length ∧ hdr C w T xs (N.ν r) p = some u ∧ Deep C N w d mskNo (N.F r) (N.ν r) T xs ∧ (p = [] → u = N.ν r) ∧
   ∃ B',(∀ b,B' b → N.F r b) ∧ Deep C N w R.d mskNo B' u R.T R.xs:=by
 obtain ⟨T,xs,d,vr,hr,hs,hl,hd,hv⟩:=Qy3i h
 have hreg:=hH.reg r p v u hu
 have hobj:=hH.obj r
 rw [hr] at hreg hobj
 have hdeep : Deep C N w d mskNo (N.F r) (N.ν r) T xs:=hobj.2
 have hh : hdr C w T xs (N.ν r) p = some u ∧ (p = [] → u = N.ν r):=by
  cases p with
  | nil =>
   have:=hreg.2 hv
   subst this
   exact ⟨by cases N.ν r <;> rfl,fun _=>rfl⟩
  | cons q p=>exact ⟨hreg.2 rfl hv hl,fun h=>by cases h⟩
 obtain ⟨B',h1,_,_,_,h2,_⟩:=hdeep.focus hC p d _ _ _ u T R.T xs R.xs (fun _ h=>h) hl hh.1 hs
 rw [hd]
 exact ⟨T,xs,d,vr,hr,hs,hl,rfl,hh.1,hdeep,hh.2,B',h1,h2⟩

theorem Deep.head {N : Nm} {w : World} {d : Nat} {m : Path → Prop} {B : Nat → Prop} {v : Value} {S : Ty} {ys : List (El S)} (h : Deep C N w d m B v S ys) :
  ∃ a cap,v = .slice a ys.length cap ∧ ys.length ≤ cap ∧ (a = none → ys.length = 0 ∧ cap = 0) ∧ ∀ ad,a = some ad → ∃ b,ad = ⟨b,0,none⟩ ∧ B b:=by
 obtain ⟨K,⟨e,cells,Fs,h⟩,_⟩:=h.row
 obtain ⟨a,cap,h1,h2,h3,h4⟩:=h.at
 exact ⟨a,cap,h1,h2,h3,fun ad had=>by obtain ⟨b,hb,hb2,_⟩:=h4 ad had; exact ⟨b,hb,(h.blk b).2 (.inl hb2)⟩⟩

theorem Q972 (r : Nat) (p : Path) (vn d i : Nat) : ∀ (l : List (AV Ty El)) (k j : Nat),(markL r p vn d i l k)[j]? = (l[j]?).map fun c=>match c with
  | .sl T xs=>match d with
   | 0=>.sl T xs
   | _ + 1=>.own r (p ++ [(i,k + j)]) vn
  | c=>c
 | [],k,j=>by simp [markL]
 | c :: l,k,j=>by
  cases j with
  | zero=>simp only [markL,List.getElem?_cons_zero,Option.map_some,Nat.add_zero]; try rfl
  | succ j =>
   simp only [markL,List.getElem?_cons_succ]
   rw [Q972 r p vn d i l (k + 1) j,show k + 1 + j = k + (j + 1) by omega]
theorem Qg89 (hC : CodOK P C) {N : Nm} {hp : Nat → AObj Ty El} {w : World} (hH : HR C N hp w) {r : Nat} {p : Path} {v : Nat} {R : Row Ty El} (h : rowAt C hp r p v = some R) {b i n cap : Nat} (hu : N.G r p v (.slice (some ⟨b,0,none⟩) n cap)) (hi : i < n) :
  n = R.xs.length ∧ n ≤ cap ∧ Qz9e C N w b (i * C.sz R.T) (markL r p R.vn R.d i (C.row R.T (R.xs.getD i (C.dflt R.T))) 0):=by
 obtain ⟨T,xs,d,vr,hr,hs,hl,hd,hh,hdeep,_,B',hB',hdp⟩:=Q2c6 hC hH h hu
 obtain ⟨a,cap',hv,hle,_,hat⟩:=hdp.head
 simp only [Value.slice.injEq] at hv
 obtain ⟨rfl,rfl,rfl⟩:=hv
 refine ⟨rfl,hle,fun j c hj=>?_⟩
 rw [Q972,Option.map_eq_some_iff] at hj
 obtain ⟨c0,hc0,hcc⟩:=hj
 rw [Nat.zero_add] at hcc
 have nonsl : (∀ U zs,c0 ≠ .sl U zs) → ∃ u,w.cell? ⟨b,i * C.sz R.T + j,none⟩ = some u ∧ RepA C N w u c:=by
  intro hne
  obtain ⟨K,⟨e,cells,Fs,hri⟩,hK⟩:=hdp.row
  obtain ⟨u,hu,hk,_⟩:=hri.cellAt hC rfl hi hc0
  refine ⟨u,hu, ?_⟩
  have : c = c0:=by
   rw [← hcc]
   cases c0 with
   | sl U zs=>exact absurd rfl (hne U zs)
   | _=>rfl
  rw [this]; exact (hK i j u c0 _ hk hne).1
 cases c0 with
 | sl U zs =>
  simp only at hcc
  cases hRd : R.d with
  | zero =>
   rw [hRd] at hcc hdp
   simp only at hcc
   subst hcc
   obtain ⟨e,cells,Fs,hri⟩:=hdp
   obtain ⟨u,hu,hk,_⟩:=hri.cellAt hC rfl hi hc0
   exact ⟨u,hu,hk.1⟩
  | succ d' =>
   rw [hRd] at hcc hdp
   simp only at hcc
   subst hcc
   obtain ⟨e,cells,Fs,hri⟩:=hdp
   obtain ⟨u,hu,hk,_⟩:=hri.cellAt hC rfl hi hc0
   refine ⟨u,hu,.own _ _ _ _ ?_⟩
   have hfull:=hH.full r
   rw [hr] at hfull
   refine hfull.2 _ _ (by simp) (by simp; omega) rfl ?_
   rw [Qif0 p [(i,j)] T R.T xs R.xs (N.ν r) _ hh hs]
   simp only [hdr]
   rw [if_pos hi,hc0]
   simp only [hu]
 | _=>exact nonsl (fun U zs=>by simp)

theorem Qvol {N : Nm} {w : World} {r : Nat} {cs : List (AV Ty El)} (h : ObjOK C N w r (.box cs)) : ∃ b,N.ν r = .pointer (some ⟨b,0,none⟩) ∧ Qz9e C N w b 0 cs:=by
 obtain ⟨b,arr,t,hv,hh,hs,_,hc,_⟩:=h
 refine ⟨b,hv,fun j c hj=>?_⟩
 have hlt : j < arr.size:=by rw [hs]; exact (List.getElem?_eq_some_iff.1 hj).1
 exact ⟨arr[j],by simp [World.cell?,hh,hlt],hc j _ c (by simp [hlt]) hj⟩

theorem Qtgg {N : Nm} {hp : Nat → AObj Ty El} {w : World} (hC : CodOK P C) (h : HR C N hp w) {t : TypeId} {v : Value} {x y : AV Ty El} {rd : List Nat} (hv : RepA C N w v x)
  (hl : loadA P C hp t x = some (y,rd)) : ∃ u,(Instr.loadAt t v).run P w = .ok u w ∧ RepA C N w u y:=by
 unfold loadA at hl
 split at hl
 ·rename_i r off
  split at hl
  ·rename_i cs hbox
   split at hl
   ·rename_i y' hp'
    simp only [Option.some.injEq,Prod.mk.injEq] at hl
    obtain ⟨rfl,_⟩:=hl
    cases hv with
    | ptr r b off hG =>
     have ho:=h.obj r
     have hreg:=h.reg r _ _ _ hG
     rw [hbox] at ho hreg
     obtain ⟨b',hν',hc⟩:=Qvol ho
     have hν:=hreg rfl rfl
     rw [hν'] at hν
     simp only [Value.pointer.injEq,Option.some.injEq,Addr.mk.injEq,and_true] at hν
     subst hν
     obtain ⟨u,hu,hr⟩:=Q8hg (P:=P) hc hp'
     exact ⟨u,by simpa [Instr.loadAt,Instr.sureAddr] using hu,hr⟩
   ·cases hl
  ·cases hl
 ·rename_i r p ver wd i j
  split at hl
  ·rename_i R hrow
   split at hl
   ·rename_i hwd
    split at hl
    ·rename_i y' hp'
     simp only [Option.some.injEq,Prod.mk.injEq] at hl
     obtain ⟨rfl,_⟩:=hl
     cases hv with
     | eptr r p ver wd i j b n cap hG hi =>
      obtain ⟨_,_,hc⟩:=Qg89 hC h hrow hG hi
      obtain ⟨u,hu,hr⟩:=Q8hg (P:=P) hc hp'
      have hwd' : wd = C.sz R.T:=hwd
      exact ⟨u,by simpa [Instr.loadAt,Instr.sureAddr,hwd'] using hu,hr⟩
    ·cases hl
   ·cases hl
  ·cases hl
 ·rename_i cs off
  split at hl
  ·rename_i y' hp'
   simp only [Option.some.injEq,Prod.mk.injEq] at hl
   obtain ⟨rfl,_⟩:=hl
   cases hv with
   | rop cs b o off f hro hcell hrep =>
    have hc : Qz9e C N w b o cs:=fun j c hj=>⟨f j,hcell j (List.getElem?_eq_some_iff.1 hj).1,hrep j c hj⟩
    obtain ⟨u,hu,hr⟩:=Q8hg (P:=P) hc hp'
    exact ⟨u,by simpa [Instr.loadAt,Instr.sureAddr] using hu,hr⟩
  ·cases hl
 ·cases hl
end
end Lx
namespace Lx
open Go
section
variable {Ty : Type} {El : Ty → Type} {C : Cod Ty El} {P : Program}

theorem SimN.freeze (hC : CodOK P C) {X : Cx} {N : Nm} {tm : Nat → AV Ty El} {hp : Nat → AObj Ty El} {a : Act} {w : World} (h : SimN C X N tm hp a w) {r : Nat} {T : Ty} {xs : List (El T)} {d d' vr vn vn' : Nat} (hr : hp r = .row T xs d vr vn .no) (hd : d' ≤ d) (hv : vn ≤ vn') :
    ∃ N', SimN C X N' tm (setH hp r (.row T xs d' vr vn' .no)) a w ∧ Le N N' w w ∧ (∀ k, N'.ν k = N.ν k) ∧ (∀ k b, N'.F k b → N.F k b) ∧ ∀ k, k ≠ r → SameN N N' k := by
  have ho := h.hr.obj r
  rw [hr] at ho
  obtain ⟨B', h1, h2, h3⟩ := Deep.freeze hC d' d _ _ _ _ _ hd ho.2 (fun _ h => h)
  have hs : Step C (fun k => k = r) N (N.upd r (N.ν r) B' (rowG C w T xs (N.ν r) d' vr vn' .no) (fun b => N.F r b ∧ ¬ B' b)) hp (setH hp r (.row T xs d' vr vn' .no)) w w := by
    refine Step.row hC h.hr (fun _ _ _ => rfl) (Nat.le_refl _) ho.1 (fun hL => h3 _ hL (fun b hb hn => .inr ⟨hb, hn⟩)) (fun p v u hg => ?_) (fun b hb => .inl (h1 b hb)) (fun b hb => .inr hb.1) (fun b hb hn => hn.2 hb) rfl rfl rfl
    have := h.hr.reg r p v u hg
    rw [hr] at this
    cases p with
    | nil => exact this
    | cons q p => exact ⟨Nat.le_trans this.1 hv, fun hm e hl => this.2 rfl (by have := this.1; omega) (Nat.le_trans hl hd)⟩
  refine ⟨_, h.step hC hs (fun k hk _ hst => ?_), hs.le h.hr, fun k => ?_, fun k b hb => ?_, fun k hk => N.upd_same _ _ _ _ hk⟩
  · subst hk
    simp only [stays, Q3el] at hst
    exact ⟨by simpa [stays, hr] using hst, by simp⟩
  · by_cases e : k = r
    · subst e; simp
    · simp [Nm.upd, e]
  · by_cases e : k = r
    · subst e; simp only [Nm.upd_F_self] at hb; exact h1 b hb
    · simpa [Nm.upd, e] using hb

theorem Step.out (hC : CodOK P C) {N : Nm} {hp : Nat → AObj Ty El} {w : World} (h : HR C N hp w) {r : Nat} (hg : hp r ≠ .gone) (ro : Nat → Prop) (hro : ∀ b, ro b → N.F r b) :
    Step C (fun k => k = r) N (N.upd r (N.ν r) (fun _ => False) (fun _ _ _ => False) ro) hp (setH hp r .out) w w := by
  refine { same := fun k hk => ⟨Qte0 hp _ hk, N.upd_same _ _ _ _ hk⟩, G := fun _ _ _ _ h => .inl h, ro := fun _ h => .inl h, roO := fun b hb => hb.elim .inl (fun h => .inr (.inr ⟨r, rfl, hro b h⟩)), mem := fun _ _ _ => rfl, size := Nat.le_refl _, obj := fun k hk => ?_, reg := fun k hk p v u hg => ?_, full := fun k hk => ?_,
           one := fun k hk p v u hg => ?_, F := fun k b hk hb => ?_, dist := fun k k' b hk hk' _ _ => hk.trans hk'.symm, roS := fun k b hk hb => ?_, roLt := fun b hb => ?_, os := rfl, tape := rfl, output := rfl, ng := fun k hk => by subst hk; rw [Q3el]; simp }
  · subst hk; rw [Q3el]; intro b; simp
  · subst hk; rw [Q3el]; trivial
  · subst hk; rw [Q3el]; trivial
  · exact h.one k p v u (hg.resolve_right (fun h => h.2))
  · subst hk; simp at hb
  · subst hk; simp at hb
  · exact hb.elim (h.roLt b) (fun hb => (h.obj r).lt hC (hro b hb))

theorem SimN.dissolve (hC : CodOK P C) {X : Cx} {N : Nm} {tm : Nat → AV Ty El} {hp : Nat → AObj Ty El} {a : Act} {w : World} (h : SimN C X N tm hp a w) {r : Nat} {T : Ty} {xs : List (El T)} {d vr vn : Nat} (hr : hp r = .row T xs d vr vn .no) :
    ∃ N', SimN C X N' tm (setH hp r .out) a w ∧ Le N N' w w ∧ (∀ k, N'.ν k = N.ν k) ∧ (∀ k b, N'.F k b → N.F k b) ∧ (∀ k, k ≠ r → SameN N N' k) ∧ RepA C N' w (N.ν r) (.sl T xs) := by
  have ho := h.hr.obj r
  rw [hr] at ho
  have hs := Step.out hC h.hr (r := r) (by rw [hr]; simp) (N.F r) (fun b hb => hb)
  refine ⟨_, h.step hC hs (fun k hk _ hst => ?_), hs.le h.hr, fun k => ?_, fun k b hb => ?_, fun k hk => N.upd_same _ _ _ _ hk, Deep.sl hC (hs.le h.hr) d _ _ _ _ _ ho.2 (fun _ h => h) (fun b hb => .inr hb)⟩
  · subst hk
    simp [stays, Q3el] at hst
  · by_cases e : k = r
    · subst e; simp
    · simp [Nm.upd, e]
  · by_cases e : k = r
    · subst e; simp at hb
    · simpa [Nm.upd, e] using hb

theorem RowI.store (hC : CodOK P C) {w w' : World} {K K' : Nat → Nat → Value → AV Ty El → (Nat → Prop) → Prop} {B : Nat → Prop} {S : Ty} {ys : List (El S)} {e : TypeId} {cells : List Value} {Fs : Nat → Nat → Nat → Prop} {g n cap : Nat}
    (h : RowI C w K B (.slice (some ⟨g, 0, none⟩) n cap) S ys e cells Fs) {i j : Nat} {us : List Value} {cs : List (AV Ty El)} {y : El S} (hi : i < ys.length) (hl : us.length = cs.length) (hj : j + cs.length ≤ C.sz S)
    (hy : C.row S y = Qltv (C.row S (ys.getD i (C.dflt S))) j cs) {cur : Array Value} {ct : TypeId} (hg : w.heap[g]? = some (.cells cur ct (0, 0))) (hg' : w'.heap[g]? = some (.cells (Qltv cur.toList (i * C.sz S + j) us).toArray ct (0, 0)))
    (hone : ∀ u ∈ us, u.oneCell' = true) (Gs : Nat → Nat → Prop)
    (hK : ∀ i' j' u c, i' < ys.length → j' < C.sz S → ¬ (i' = i ∧ j ≤ j' ∧ j' < j + cs.length) → K i' j' u c (Fs i' j') → K' i' j' u c (Fs i' j'))
    (hk : ∀ k u c, us[k]? = some u → cs[k]? = some c → ((C.row S (ys.getD i (C.dflt S)))[j + k]? = some c ∧ w.cell? ⟨g, i * C.sz S + j + k, none⟩ = some u ∧ (∀ b, Gs k b ↔ Fs i (j + k) b) ∧ (K i (j + k) u c (Fs i (j + k)) → K' i (j + k) u c (Fs i (j + k)))) ∨ (K' i (j + k) u c (Gs k) ∧ ∀ b, Gs k b → ¬ B b))
    (hGG : ∀ k k' b, Gs k b → Gs k' b → ¬ B b → k = k') :
    ∃ B'' : Nat → Prop, RowD C w' K' B'' (.slice (some ⟨g, 0, none⟩) n cap) S (ys.set i y) ∧ (∀ b, B'' b → B b ∨ ∃ k, k < cs.length ∧ Gs k b) := by
  obtain ⟨a', cap', hv', hle, _, hat⟩ := h.at
  simp only [Value.slice.injEq] at hv'
  obtain ⟨rfl, rfl, rfl⟩ := hv'
  have hown := h.own
  rcases hown.2 with ⟨hv, _⟩ | ⟨g', cap', cur', hv, hb0, hh, hle', hcm, hsz, htk⟩
  · cases hv
  simp only [Value.slice.injEq, Option.some.injEq, Addr.mk.injEq, and_true, true_and] at hv
  obtain ⟨rfl, rfl⟩ := hv
  rw [hg] at hh
  simp only [Option.some.injEq, Obj.cells.injEq, and_true] at hh
  obtain ⟨rfl, rfl⟩ := hh
  have hcl : cells.length = ys.length * C.sz S := hown.1
  have hmul : i * C.sz S + C.sz S ≤ ys.length * C.sz S := by rw [← Nat.succ_mul]; exact Nat.mul_le_mul_right _ hi
  have hmul2 : ys.length * C.sz S ≤ cap * C.sz S := Nat.mul_le_mul_right _ hle'
  have hcur : ∀ k, k < ys.length * C.sz S → cur.toList[k]? = cells[k]? := fun k hk => by rw [← htk, List.getElem?_take_of_lt hk]
  have hB : ∀ i j b, i < ys.length → j < C.sz S → Fs i j b → B b := fun i j b h1 h2 h3 => (h.blk b).2 (.inr ⟨i, j, h1, h2, h3⟩)
  have hgB : B g := (h.blk g).2 (.inl rfl)

  let F' : Nat → Nat → Nat → Prop := fun i' j' => if i' = i ∧ j ≤ j' ∧ j' < j + cs.length then Gs (j' - j) else Fs i' j'
  have hGk : ∀ k b, k < cs.length → Gs k b → (Fs i (j + k) b) ∨ ¬ B b := by
    intro k b hk' hb
    have h1 : us[k]? = some us[k] := List.getElem?_eq_getElem (by omega)
    rcases hk k _ _ h1 (List.getElem?_eq_getElem hk') with ⟨_, _, h3, _⟩ | ⟨_, h3⟩
    · exact .inl ((h3 b).1 hb)
    · exact .inr (h3 b hb)
  refine ⟨fun b => b = g ∨ ∃ i' j', i' < ys.length ∧ j' < C.sz S ∧ F' i' j' b, ⟨_, Qltv cells (i * C.sz S + j) us, F', h.ty, ?_, ?_, fun b => ?_, fun i' j' b hi' hj' hb => ?_, fun i1 j1 i2 j2 b h1 h2 h3 h4 hb hb' => ?_, fun i' j' c hi' hc => ?_⟩, fun b hb => ?_⟩
  · rw [List.length_set]
    refine ⟨?_, .inr ⟨g, cap, _, rfl, hb0, hg', hle', hcm, ?_, ?_⟩⟩
    · rw [Qlai _ _ _ (by omega), hcl]
    · simp only [List.size_toArray]
      rw [Qlai _ _ _ (by simp; omega)]; simpa using hsz
    · apply List.ext_getElem?
      intro k
      rw [Qkjm _ _ _ _ (by omega)]
      by_cases hk : k < ys.length * C.sz S
      · rw [List.getElem?_take_of_lt hk]
        simp only [List.toList_toArray]
        rw [Qkjm _ _ _ _ (by simp; omega), hcur k hk]
      · rw [List.getElem?_eq_none (by simp; omega)]
        have h2 : ¬ k < i * C.sz S + j := by omega
        have h3 : ¬ k < i * C.sz S + j + us.length := by omega
        rw [if_neg h2, if_neg h3, List.getElem?_eq_none (by omega)]
  · intro u hu
    simp only [Qltv, List.mem_append] at hu
    rcases hu with hu | hu | hu
    · exact h.one u (List.mem_of_mem_take hu)
    · exact hone u hu
    · exact h.one u (List.mem_of_mem_drop hu)
  · rw [List.length_set]
    simp only [Value.ownBlock, Option.some.injEq]
    exact ⟨fun h => h.imp Eq.symm id, fun h => h.imp Eq.symm id⟩
  · rw [List.length_set] at hi'
    simp only [F'] at hb
    have hne : ∀ b, ¬ B b → (Value.slice (some (⟨g, 0, none⟩ : Addr)) ys.length cap).ownBlock ≠ some b := fun b hb e => by
      simp only [Value.ownBlock, Option.some.injEq] at e
      exact hb (e ▸ hgB)
    split at hb
    · rename_i hc
      rcases hGk (j' - j) b (by omega) hb with h1 | h1
      · exact h.sep0 i _ b hi (by omega) h1
      · exact hne b h1
    · exact h.sep0 i' j' b hi' hj' hb
  · rw [List.length_set] at h1 h3
    simp only [F'] at hb hb'
    split at hb
    · rename_i e1
      split at hb'
      · rename_i e2
        refine ⟨e1.1.trans e2.1.symm, ?_⟩
        rcases hGk (j1 - j) b (by omega) hb with h5 | h5
        · rcases hGk (j2 - j) b (by omega) hb' with h6 | h6
          · have := (h.sep i _ i _ b hi (by omega) hi (by omega) h5 h6).2
            omega
          · exact absurd (hB i _ b hi (by omega) h5) h6
        · have := hGG _ _ b hb hb' h5
          omega
      · rename_i e2
        rcases hGk (j1 - j) b (by omega) hb with h5 | h5
        · obtain ⟨h6, h7⟩ := h.sep i _ i2 j2 b hi (by omega) h3 h4 h5 hb'
          exact absurd ⟨h6.symm, by omega, by omega⟩ e2
        · exact absurd (hB i2 j2 b h3 h4 hb') h5
    · rename_i e1
      split at hb'
      · rename_i e2
        rcases hGk (j2 - j) b (by omega) hb' with h5 | h5
        · obtain ⟨h6, h7⟩ := h.sep i1 j1 i _ b h1 h2 hi (by omega) hb h5
          exact absurd ⟨h6, by omega, by omega⟩ e1
        · exact absurd (hB i1 j1 b h1 h2 hb) h5
      · exact h.sep i1 j1 i2 j2 b h1 h2 h3 h4 hb hb'
  · rw [List.length_set] at hi'
    have hjs := RowI.sz hC hc
    rw [Qkjm _ _ _ _ (by omega)]
    rw [Qfvb hi] at hc
    by_cases hki : i' = i
    · subst hki
      rw [if_pos rfl, hy, Qkjm _ _ _ _ (by rw [hC.len]; omega)] at hc
      by_cases e1 : j' < j
      · rw [if_pos e1] at hc
        rw [if_pos (by omega)]
        obtain ⟨u, hu, hr⟩ := h.cell i' j' c hi hc
        refine ⟨u, hu, ?_⟩
        simp only [F']
        rw [if_neg (by omega)]
        exact hK i' j' u c hi hjs (by omega) hr
      · rw [if_neg e1] at hc
        rw [if_neg (by omega)]
        by_cases e2 : j' < j + cs.length
        · rw [if_pos e2] at hc
          rw [if_pos (by omega)]
          have hlt : j' - j < us.length := by omega
          refine ⟨us[j' - j], ?_, ?_⟩
          · rw [show i' * C.sz S + j' - (i' * C.sz S + j) = j' - j by omega]
            exact List.getElem?_eq_getElem hlt
          · simp only [F']
            rw [if_pos (by first | exact ⟨trivial, by omega, e2⟩ | exact ⟨rfl, by omega, e2⟩)]
            have ej : j + (j' - j) = j' := by omega
            rcases hk (j' - j) us[j' - j] c (List.getElem?_eq_getElem hlt) hc with ⟨h5, h6, h7, h8⟩ | ⟨h5, _⟩
            · rw [ej] at h5
              obtain ⟨u, hu, hr⟩ := h.cell i' j' c hi h5
              obtain ⟨b, hb1, hb2, hcell⟩ := hat _ rfl
              simp only [Addr.mk.injEq, and_true] at hb1
              subst hb1
              rw [show i' * C.sz S + j + (j' - j) = i' * C.sz S + j' by omega, hcell _ (Qz8b hi hjs), hu] at h6
              obtain rfl := Option.some.inj h6
              have : Gs (j' - j) = Fs i' j' := funext fun b => propext (by rw [h7 b, ej])
              rw [this]
              rw [ej] at h8
              exact h8 hr
            · rw [ej] at h5; exact h5
        · rw [if_neg e2] at hc
          rw [if_neg (by omega)]
          obtain ⟨u, hu, hr⟩ := h.cell i' j' c hi hc
          refine ⟨u, hu, ?_⟩
          simp only [F']
          rw [if_neg (by omega)]
          exact hK i' j' u c hi hjs (by omega) hr
    · rw [if_neg hki] at hc
      obtain ⟨u, hu, hr⟩ := h.cell i' j' c hi' hc
      refine ⟨u, ?_, ?_⟩
      · have hsep : i' * C.sz S + j' < i * C.sz S ∨ i * C.sz S + C.sz S ≤ i' * C.sz S + j' := by
          rcases Nat.lt_or_gt_of_ne hki with h2 | h2
          · left
            have : (i' + 1) * C.sz S ≤ i * C.sz S := Nat.mul_le_mul_right _ h2
            rw [Nat.succ_mul] at this; omega
          · right
            have : (i + 1) * C.sz S ≤ i' * C.sz S := Nat.mul_le_mul_right _ h2
            rw [Nat.succ_mul] at this; omega
        by_cases e1 : i' * C.sz S + j' < i * C.sz S + j
        · rw [if_pos e1]; exact hu
        · rw [if_neg e1, if_neg (by omega)]; exact hu
      · simp only [F']
        rw [if_neg (fun h => hki h.1)]
        exact hK i' j' u c hi' hjs (fun h => hki h.1) hr
  · rcases hb with rfl | ⟨i', j', h1, h2, h3⟩
    · exact .inl hgB
    · simp only [F'] at h3
      split at h3
      · exact .inr ⟨_, by omega, h3⟩
      · exact .inl (hB i' j' b h1 h2 h3)
end
end Lx
namespace Lx
open Go
section
variable {Ty : Type} {El : Ty → Type} {C : Cod Ty El} {P : Program}

theorem Deep.nil (hC : CodOK P C) {N : Nm} {w : World} (d : Nat) (m : Path → Prop) (T : Ty) : Deep C N w d m (fun _=>False) (.slice none 0 0) T []:=by
 obtain ⟨e,he⟩:=hC.typ T
 have : ∀ K,RowD C w K (fun _=>False) (.slice none 0 0) T []:=fun K=>by
  refine ⟨e,[],fun _ _ _=>False,he,World.ownsRow_nil w 0 e _,fun u hu=>by simp at hu,fun b=>?_,fun i j b hi=>by simp at hi,fun i j i' j' b hi=>by simp at hi,fun i j c hi=>by simp at hi⟩
  simp [Value.ownBlock]
 cases d with
 | zero=>exact this _
 | succ d=>exact this _

inductive CellG (C : Cod Ty El) (N : Nm) (w : World) (D : Nat) (inn : Nat → Prop) (u : Value) : AV Ty El → (Nat → Prop) → Prop
 | val (c : AV Ty El) (h : RepA C N w u c) (hd : ∀ U zs,c = .sl U zs → D = 0) : CellG C N w D inn u c (fun _=>False)
 | nil (T : Ty) (h : u = .slice none 0 0) : CellG C N w D inn u (.sl T []) (fun _=>False)
 | mv (r' : Nat) (U : Ty) (zs : List (El U)) (D' : Nat) (hi : inn r') (hD : D = D' + 1) (h : Deep C N w D' mskNo (N.F r') u U zs) : CellG C N w D inn u (.sl U zs) (N.F r')

theorem CellG.mono (hC : CodOK P C) {N N' : Nm} {w w' : World} {D : Nat} {inn inn' : Nat → Prop} {u : Value} {c : AV Ty El} {F : Nat → Prop} (h : CellG C N w D inn u c F) (hL : Le N N' w w') (hi : ∀ r,inn r → inn' r) (hF : ∀ r,inn r → SameN N N' r)
  (hw : ∀ r b,inn r → N.F r b → w'.heap[b]? = w.heap[b]?) : CellG C N' w' D inn' u c F:=by
 cases h with
 | val c h hd=>exact .val c (h.mono hL) hd
 | nil T h=>exact .nil T h
 | mv r' U zs D' hi' hD h =>
  have hs:=hF r' hi'
  have e : N'.F r' = N.F r':=funext fun b=>propext (hs.F b)
  rw [← e]
  refine .mv r' U zs D' (hi r' hi') hD ?_
  rw [e]
  exact Deep.mono hC hL D' _ _ _ _ _ h (fun b hb=>hw r' b hi' hb)

theorem CellG.k (hC : CodOK P C) {N : Nm} {w : World} {D : Nat} {inn : Nat → Prop} {u : Value} {c : AV Ty El} {F : Nat → Prop} (h : CellG C N w D inn u c F) :
  (D = 0 → flatK C N w u c F) ∧ ∀ D' i j,D = D' + 1 → deepK C N w (Deep C N w D') mskNo i j u c F:=by
 cases h with
 | val c h hd =>
  refine ⟨fun _=>⟨h,fun _ h=>h⟩,fun D' i j hD=>?_⟩
  cases c with
  | sl U zs=>have:=hd U zs rfl; omega
  | _=>exact ⟨h,fun _ h=>h⟩
 | nil T h =>
  subst h
  exact ⟨fun _=>⟨.sl0 T none 0,fun _ h=>h⟩,fun D' i j hD=>.inr ⟨fun h=>h,Deep.nil hC D' _ T⟩⟩
 | mv r' U zs D' hi hD h =>
  refine ⟨fun h0=>by omega,fun D2 i j hD2=>.inr ⟨fun h=>h, ?_⟩⟩
  obtain rfl : D2 = D':=by omega
  exact h

def KeepC (N : Nm) (r : Nat) (p : Path) (vn d i j : Nat) (old : AV Ty El) (u : Value) (c : AV Ty El) : Prop:=c = old ∧ 0 < d ∧ N.G r (p ++ [(i,j)]) vn u

theorem Qpqi : ∀ {l : List Nat},Qnne l = true → l.Nodup
 | [],_=>by simp
 | a :: l,h=>by
  simp only [Qnne,Bool.and_eq_true,Bool.not_eq_true',List.contains_eq_mem,decide_eq_false_iff_not] at h
  exact List.nodup_cons.2 ⟨h.1,Qpqi h.2⟩

theorem Qmgg (hC : CodOK P C) {X : Cx} {N : Nm} {tm : Nat → AV Ty El} {hp0 hp : Nat → AObj Ty El} {a : Act} {w : World} (hS : SimN C X N tm hp a w) {r : Nat} {p : Path} {vn d i j : Nat} {old x : AV Ty El} {s : CellSt Ty El} {D : Nat} {u : Value}
  (h : Qov5 C hp0 r p vn d i j old x = some s) (hg : s.g = true) (hD : D ≤ s.dm) (hDd : D ≤ d) (hsame : ∀ k ∈ s.inn,hp k = hp0 k) (hu : RepA C N w u x) (hold : Qvgi old = true) :
  ∃ N1 hp1,SimN C X N1 tm hp1 a w ∧ Le N N1 w w ∧ (∀ k,N1.ν k = N.ν k) ∧ (∀ k b,N1.F k b → N.F k b) ∧ (∀ k,k ∉ s.inn → SameN N N1 k ∧ hp1 k = hp k) ∧ (∀ k,k ∈ s.inn → hp1 k ≠ .gone ∧ stays hp1 k = true → stays hp k = true) ∧ (∀ k ∈ s.inn,k ≠ r ∧ hp1 k ≠ .gone) ∧
   (KeepC N r p vn d i j old u s.c ∨ ∃ F,CellG C N1 w D (fun k=>k ∈ s.inn) u s.c F ∧ ∀ b,F b → ∃ k ∈ s.inn,N1.F k b) ∧ Qvgi s.c = true ∧ s.inn.length ≤ 1:=by
 have plain : ∀ c,Qvgi c = true → s.inn = [] → s.c = c → RepA C N w u c → (∀ U zs,c = .sl U zs → D = 0) → ∃ N1 hp1,SimN C X N1 tm hp1 a w ∧ Le N N1 w w ∧ (∀ k,N1.ν k = N.ν k) ∧ (∀ k b,N1.F k b → N.F k b) ∧ (∀ k,k ∉ s.inn → SameN N N1 k ∧ hp1 k = hp k) ∧ (∀ k,k ∈ s.inn → hp1 k ≠ .gone ∧ stays hp1 k = true → stays hp k = true) ∧ (∀ k ∈ s.inn,k ≠ r ∧ hp1 k ≠ .gone) ∧
   (KeepC N r p vn d i j old u s.c ∨ ∃ F,CellG C N1 w D (fun k=>k ∈ s.inn) u s.c F ∧ ∀ b,F b → ∃ k ∈ s.inn,N1.F k b) ∧ Qvgi s.c = true ∧ s.inn.length ≤ 1:=by
  intro c hc h1 h2 h3 h4
  refine ⟨N,hp,hS,Le.rfl',fun _=>rfl,fun _ _ h=>h,fun k _=>⟨⟨rfl,fun _=>Iff.rfl,fun _ _ _=>Iff.rfl⟩,rfl⟩,fun k hk h=>h.2,fun k hk=>by rw [h1] at hk; simp at hk,.inr ⟨fun _=>False, ?_,fun b h=>h.elim⟩,by rw [h2]; exact hc,by rw [h1]; simp⟩
  rw [h2]; exact .val c h3 h4
 unfold Qov5 at h
 cases x with
 | int k n=>simp only [Option.some.injEq] at h; subst h; exact plain _ rfl rfl rfl hu (fun U zs h=>by cases h)
 | bool b=>simp only [Option.some.injEq] at h; subst h; exact plain _ rfl rfl rfl hu (fun U zs h=>by cases h)
 | str l=>simp only [Option.some.injEq] at h; subst h; exact plain _ rfl rfl rfl hu (fun U zs h=>by cases h)
 | sl T xs=>simp only [Option.some.injEq] at h; subst h; exact plain _ rfl rfl rfl hu (fun U zs h=>by simp only at hD; omega)
 | nils =>
  simp only at h
  split at h
  ·rename_i T zs
   simp only [Option.some.injEq] at h
   subst h
   refine ⟨N,hp,hS,Le.rfl',fun _=>rfl,fun _ _ h=>h,fun k _=>⟨⟨rfl,fun _=>Iff.rfl,fun _ _ _=>Iff.rfl⟩,rfl⟩,fun k hk h=>h.2,fun k hk=>by simp at hk,.inr ⟨fun _=>False,.nil T ?_,fun b h=>h.elim⟩,rfl,by simp⟩
   cases hu; rfl
  ·cases h
 | own r' q v =>
  simp only at h
  split at h
  ·rename_i hr
   subst hr
   split at h
   ·rename_i hv
    split at h
    ·rename_i i' j' hq
     split at h
     ·rename_i hq2
      simp only [Option.some.injEq] at h
      subst h
      simp only [Bool.and_eq_true,decide_eq_true_eq] at hg
      refine ⟨N,hp,hS,Le.rfl',fun _=>rfl,fun _ _ h=>h,fun k _=>⟨⟨rfl,fun _=>Iff.rfl,fun _ _ _=>Iff.rfl⟩,rfl⟩,fun k hk h=>h.2,fun k hk=>by simp at hk,.inl ⟨rfl,hv.2, ?_⟩, ?_,by simp⟩
      ·cases hu with
       | own _ _ _ _ hG =>
        have hqe : q = p ++ [(i,j)]:=by
         obtain ⟨ys,rfl⟩:=List.getLast?_eq_some_iff.1 hq
         rw [List.dropLast_concat] at hg
         rw [hg.1,hg.2,hq2.2]
        rw [← hqe,← hv.1]; exact hG
      ·exact hold
     ·cases h
    ·cases h
   ·cases h
  ·rename_i hne
   split at h
   ·rename_i T xs d' vr' vn' m hr'
    split at h
    case h_2=>cases h
    split at h
    ·rename_i hv
     simp only [Option.some.injEq] at h
     subst h
     simp only at hD hsame hg
     have hrow : hp r' = .row T xs d' vr' vn' .no:=(hsame r' (by simp)).trans hr'
     have hue : u = N.ν r':=by
      cases hu with
      | own _ _ _ _ hG =>
       have:=hS.hr.reg r' [] v u hG
       rw [hrow] at this
       exact this.2 hv
     subst hue
     cases hDc : D with
     | zero =>
      obtain ⟨N1,h1,h2,h3,h4,h5,h6⟩:=hS.dissolve hC hrow
      refine ⟨N1,_,h1,h2,h3,h4,fun k hk=>?_,fun k hk hst=>?_,fun k hk=>?_,.inr ⟨fun _=>False,.val _ h6 (fun _ _ _=>rfl),fun b h=>h.elim⟩,rfl,by simp⟩
      ·have hk' : k ≠ r':=by simpa using hk
       exact ⟨h5 k hk',Qte0 hp _ hk'⟩
      ·have hk' : k = r':=by simpa using hk
       subst hk'
       simp [stays,Q3el] at hst
      ·have hk' : k = r':=by simpa using hk
       subst hk'
       exact ⟨hne,by rw [Q3el]; simp⟩
     | succ D' =>
      obtain ⟨N1,h1,h2,h3,h4,h5⟩:=hS.freeze (vn':=vn') hC hrow (d':=min d' D') (Nat.min_le_left _ _) (Nat.le_refl _)
      have ho:=h1.hr.obj r'
      rw [Q3el] at ho
      refine ⟨N1,_,h1,h2,h3,h4,fun k hk=>?_,fun k hk hst=>?_,fun k hk=>?_,.inr ⟨N1.F r',.mv r' T xs D' (by simp) rfl ?_,fun b hb=>⟨r',by simp,hb⟩⟩,rfl,by simp⟩
      ·have hk' : k ≠ r':=by simpa using hk
       exact ⟨h5 k hk',Qte0 hp _ hk'⟩
      ·have hk' : k = r':=by simpa using hk
       subst hk'
       have:=hst.2
       simp only [stays,Q3el] at this
       simpa [stays,hrow] using this
      ·have hk' : k = r':=by simpa using hk
       subst hk'
       exact ⟨hne,by rw [Q3el]; simp⟩
      ·have hd:=ho.2
       rw [h3 r'] at hd
       have hd' : Deep C N1 w (min d' D') mskNo (N1.F r') (N.ν r') T xs:=hd
       by_cases hle : D' ≤ d'
       ·rwa [Nat.min_eq_right hle] at hd'
       ·refine Deep.hgt hC _ _ _ _ _ _ _ ?_ ?_ (fun _ h=>h) hd'
        ·split at hD
         ·omega
         ·omega
        ·split at hD
         ·omega
         ·omega
    ·cases h
   ·cases h
 | _=>cases h

structure Prep (C : Cod Ty El) (X : Cx) (tm : Nat → AV Ty El) (a : Act) (w : World) (r : Nat) (inn : List Nat) (N N1 : Nm) (hp hp1 : Nat → AObj Ty El) : Prop where
 sim : SimN C X N1 tm hp1 a w
 le : Le N N1 w w
 ν : ∀ k,N1.ν k = N.ν k
 F : ∀ k b,N1.F k b → N.F k b
 out : ∀ k,k ∉ inn → SameN N N1 k ∧ hp1 k = hp k
 st : ∀ k,k ∈ inn → stays hp1 k = true → stays hp k = true
 ne : ∀ k ∈ inn,k ≠ r ∧ hp1 k ≠ .gone


theorem Qjgt (hC : CodOK P C) {X : Cx} {tm : Nat → AV Ty El} {hp0 : Nat → AObj Ty El} {a : Act} {w : World} {r : Nat} {p : Path} {vn d i D : Nat} (hDd : D ≤ d) : ∀ (xs os : List (AV Ty El)) (us : List Value) (j : Nat) (N : Nm) (hp : Nat → AObj Ty El) (cs : List (AV Ty El)) (g : Bool) (inn : List Nat) (dm : Nat),
  SimN C X N tm hp a w → Qdl0 C hp0 r p vn d i xs os j = some (cs,g,inn,dm) → g = true → D ≤ dm → inn.Nodup → (∀ k ∈ inn,hp k = hp0 k) → us.length = xs.length → (∀ (k : Nat) u x,us[k]? = some u → xs[k]? = some x → RepA C N w u x) → (∀ c ∈ os,Qvgi c = true) →
  ∃ N1 hp1,Prep C X tm a w r inn N N1 hp hp1 ∧ cs.length = xs.length ∧ xs.length ≤ os.length ∧ ∃ subs : Nat → List Nat,(∀ k k' r',r' ∈ subs k → r' ∈ subs k' → k = k') ∧ (∀ k r',r' ∈ subs k → r' ∈ inn) ∧
   ∀ (k : Nat) u c,us[k]? = some u → cs[k]? = some c → Qvgi c = true ∧ ((∃ o,os[k]? = some o ∧ KeepC N r p vn d i (j + k) o u c) ∨ ∃ F,CellG C N1 w D (fun k'=>k' ∈ subs k) u c F ∧ ∀ b,F b → ∃ k' ∈ subs k,N1.F k' b):=by
 intro xs
 induction xs with
 | nil =>
  intro os us j N hp cs g inn dm hS h hg hD hnd hsame hl hu ho
  simp only [Qdl0,Option.some.injEq,Prod.mk.injEq] at h
  obtain ⟨rfl,_,rfl,_⟩:=h
  exact ⟨N,hp,⟨hS,Le.rfl',fun _=>rfl,fun _ _ h=>h,fun k _=>⟨⟨rfl,fun _=>Iff.rfl,fun _ _ _=>Iff.rfl⟩,rfl⟩,fun k _ h=>h,fun k hk=>by simp at hk⟩,rfl,Nat.zero_le _,fun _=>[],fun k k' r' hr=>by simp at hr,fun k r' hr=>by simp at hr,fun k u c _ hc=>by simp at hc⟩
 | cons x xs ih =>
  intro os us j N hp cs g inn dm hS h hg hD hnd hsame hl hu ho
  cases os with
  | nil=>simp [Qdl0] at h
  | cons o os =>
   cases us with
   | nil=>simp at hl
   | cons u us =>
    simp only [Qdl0] at h
    split at h
    ·cases h
    ·rename_i s hs
     split at h
     ·cases h
     ·rename_i cs' g' inn' dm' hr
      simp only [Option.some.injEq,Prod.mk.injEq] at h
      obtain ⟨rfl,rfl,rfl,rfl⟩:=h
      simp only [Bool.and_eq_true] at hg
      rw [List.nodup_append] at hnd
      obtain ⟨hn1,hn2,hn3⟩:=hnd
      obtain ⟨N1,hp1,h1,h2,h3,h4,h5,h6,h7,h8,h9,h10⟩:=Qmgg hC hS hs hg.1 (by omega) hDd (fun k hk=>hsame k (List.mem_append_left _ hk)) (hu 0 u x rfl rfl) (ho o (by simp))
      have hdis : ∀ k,k ∈ inn' → k ∉ s.inn:=fun k hk hk'=>hn3 k hk' k hk rfl
      obtain ⟨N2,hp2,hP,hlen,hle,subs,hs1,hs2,hs3⟩:=ih os us (j + 1) N1 hp1 cs' g' inn' dm' h1 hr hg.2 (by omega) hn2 (fun k hk=>((h5 k (hdis k hk)).2).trans (hsame k (List.mem_append_right _ hk))) (by simpa using hl)
       (fun k u' x' hu' hx'=>(hu (k + 1) u' x' (by simpa using hu') (by simpa using hx')).mono h2) (fun c hc=>ho c (by simp [hc]))
      refine ⟨N2,hp2,⟨hP.sim,⟨fun r p v u h=>hP.le.G _ _ _ _ (h2.G _ _ _ _ h),fun b hb=>hP.le.ro b (h2.ro b hb),fun _ _=>rfl⟩,fun k=>(hP.ν k).trans (h3 k),fun k b hb=>h4 k b (hP.F k b hb),fun k hk=>?_,fun k hk hst=>?_,fun k hk=>?_⟩,by simp [hlen],by simp; omega,
       fun k=>match k with | 0=>s.inn | k + 1=>subs k,fun k k' r' hr hr'=>?_,fun k r' hr=>?_,fun k u' c hu' hc'=>?_⟩
      ·rw [List.mem_append,not_or] at hk
       obtain ⟨e1,e2⟩:=h5 k hk.1
       obtain ⟨e3,e4⟩:=hP.out k hk.2
       exact ⟨⟨e3.ν.trans e1.ν,fun b=>(e3.F b).trans (e1.F b),fun p v u=>(e3.G p v u).trans (e1.G p v u)⟩,e4.trans e2⟩
      ·by_cases hk' : k ∈ inn'
       ·have h11:=hP.st k hk' hst
        have e:=(h5 k (hdis k hk')).2
        simpa [stays,e] using h11
       ·have hk1 : k ∈ s.inn:=(List.mem_append.1 hk).resolve_right hk'
        have e4:=(hP.out k hk').2
        refine h6 k hk1 ⟨(h7 k hk1).2, ?_⟩
        simpa [stays,e4] using hst
      ·by_cases hk' : k ∈ inn'
       ·exact hP.ne k hk'
       ·have hk1 : k ∈ s.inn:=(List.mem_append.1 hk).resolve_right hk'
        exact ⟨(h7 k hk1).1,by rw [(hP.out k hk').2]; exact (h7 k hk1).2⟩
      ·cases k with
       | zero=>cases k' with
        | zero=>rfl
        | succ k'=>exact absurd hr (hdis r' (hs2 _ _ hr'))
       | succ k=>cases k' with
        | zero=>exact absurd hr' (hdis r' (hs2 _ _ hr))
        | succ k'=>rw [hs1 k k' r' hr hr']
      ·cases k with
       | zero=>exact List.mem_append_left _ hr
       | succ k=>exact List.mem_append_right _ (hs2 k r' hr)
      ·cases k with
       | zero =>
        simp only [List.getElem?_cons_zero,Option.some.injEq] at hu' hc'
        subst hu'; subst hc'
        refine ⟨h9, ?_⟩
        rcases h8 with h8 | ⟨F,h8,h8'⟩
        ·exact .inl ⟨o,rfl,h8⟩
        ·have hsm : ∀ k,k ∈ s.inn → SameN N1 N2 k:=fun k hk=>(hP.out k (fun hk'=>hdis k hk' hk)).1
         refine .inr ⟨F,h8.mono hC hP.le (fun _ h=>h) (fun k hk=>hsm k hk) (fun _ _ _ _=>rfl),fun b hb=>?_⟩
         obtain ⟨k',hk',hb'⟩:=h8' b hb
         exact ⟨k',hk',((hsm k' hk').F b).2 hb'⟩
       | succ k =>
        obtain ⟨h11,h12⟩:=hs3 k u' c (by simpa using hu') (by simpa using hc')
        refine ⟨h11, ?_⟩
        rcases h12 with ⟨o',ho',hk1,hk0,hk2⟩ | h12
        ·refine .inl ⟨o',by simpa using ho',hk1,hk0, ?_⟩
         rw [show j + (k + 1) = j + 1 + k by omega]

         by_cases hrr : r ∈ s.inn
         ·exact absurd rfl (h7 r hrr).1
         ·exact ((h5 r hrr).1.G _ _ _).1 hk2
        ·exact .inr h12
end
end Lx
namespace Lx
open Go
section
variable {Ty : Type} {El : Ty → Type} {C : Cod Ty El} {P : Program}

def Nm.updIn (N : Nm) (r : Nat) (ν : Value) (F : Nat → Prop) (Gn : Path → Nat → Value → Prop) (ro : Nat → Prop) (inn : Nat → Prop) : Nm :=
  { ν := fun k => if k = r then ν else N.ν k, F := fun k b => if k = r then F b else N.F k b ∧ ¬ inn k, G := fun k p v u => N.G k p v u ∨ (k = r ∧ Gn p v u), ro := fun b => N.ro b ∨ ro b }
def outs (hp : Nat → AObj Ty El) (r : Nat) (o : AObj Ty El) (inn : List Nat) : Nat → AObj Ty El := fun k => if k = r then o else if k ∈ inn then .out else hp k

theorem Qm38 {hp : Nat → AObj Ty El} : ∀ (inn : List Nat), updH hp (inn.map fun k => (k, .out)) = fun k => if k ∈ inn then .out else hp k
  | [] => by funext k; simp [updH]
  | i :: inn => by
    funext k
    simp only [List.map_cons, updH]
    rw [Qm38 inn]
    by_cases h : k ∈ inn
    · simp [h]
    · by_cases h2 : k = i <;> simp [h, h2, setH]
theorem Q2dv {hp : Nat → AObj Ty El} {r : Nat} {o : AObj Ty El} {inn : List Nat} (h : r ∉ inn) : updH hp ((r, o) :: inn.map fun k => (k, .out)) = outs hp r o inn := by
  funext k
  simp only [updH]
  rw [Qm38 inn]
  unfold outs setH
  by_cases e : k = r
  · subst e; simp [h]
  · simp [e]

theorem Step.rowIn (hC : CodOK P C) {N : Nm} {hp : Nat → AObj Ty El} {w w' : World} (h : HR C N hp w) {r : Nat} {T : Ty} {xs : List (El T)} {d vr vn : Nat} {m : Msk} {ν : Value} {F ro : Nat → Prop} {inn : List Nat}
    (hin : ∀ k ∈ inn, k ≠ r ∧ hp k ≠ .gone)
    (hmem : ∀ b, b < w.heap.size → ¬ N.F r b → w'.heap[b]? = w.heap[b]?) (hsz : w.heap.size ≤ w'.heap.size) (h1 : ν.oneCell' = true)
    (hdeep : Le N (N.updIn r ν F (rowG C w' T xs ν d vr vn m) ro (· ∈ inn)) w w' → Deep C (N.updIn r ν F (rowG C w' T xs ν d vr vn m) ro (· ∈ inn)) w' d (mskP m) F ν T xs)
    (hold : ∀ p v u, N.G r p v u → refOK C w' ν p v u (.row T xs d vr vn m))
    (hF : ∀ b, F b → N.F r b ∨ w.heap.size ≤ b ∨ ∃ k ∈ inn, N.F k b) (hro : ∀ b, ro b → (w.heap.size ≤ b ∧ b < w'.heap.size) ∨ N.F r b) (hroF : ∀ b, F b → ¬ ro b)
    (hos : w'.os = w.os) (htp : w'.tape = w.tape) (hout : w'.output = w.output) :
    Step C (fun k => k = r ∨ k ∈ inn) N (N.updIn r ν F (rowG C w' T xs ν d vr vn m) ro (· ∈ inn)) hp (outs hp r (.row T xs d vr vn m) inn) w w' := by
  have hL : Le N (N.updIn r ν F (rowG C w' T xs ν d vr vn m) ro (· ∈ inn)) w w' := ⟨fun _ _ _ _ h => .inl h, fun _ h => .inl h, fun b hb => hmem b (h.roLt b hb) (fun hf => h.roNot r b hf hb)⟩
  have hd := hdeep hL
  have self : outs hp r (.row T xs d vr vn m) inn r = .row T xs d vr vn m := by simp [outs]
  have oth : ∀ k ∈ inn, outs hp r (.row T xs d vr vn m) inn k = .out := fun k hk => by simp [outs, hk, (hin k hk).1]
  have νs : (N.updIn r ν F (rowG C w' T xs ν d vr vn m) ro (· ∈ inn)).ν r = ν := by simp [Nm.updIn]
  have Fs : ∀ b, (N.updIn r ν F (rowG C w' T xs ν d vr vn m) ro (· ∈ inn)).F r b ↔ F b := fun b => by simp [Nm.updIn]
  have Fo : ∀ k ∈ inn, ∀ b, ¬ (N.updIn r ν F (rowG C w' T xs ν d vr vn m) ro (· ∈ inn)).F k b := fun k hk b hb => by
    simp [Nm.updIn, (hin k hk).1, hk] at hb
  refine { same := fun k hk => ?_, G := hL.G, ro := hL.ro, roO := fun b hb => ?_, mem := fun b hb hf => hmem b hb (hf r (.inl rfl)), size := hsz, obj := fun k hk => ?_, reg := fun k hk p v u hg => ?_, full := fun k hk => ?_,
           one := fun k hk p v u hg => ?_, F := fun k b hk hb => ?_, dist := fun k k' b hk hk' hb hb' => ?_, roS := fun k b hk hb => ?_, roLt := fun b hb => ?_, os := hos, tape := htp, output := hout, ng := fun k hk => hk.elim (fun hk => by rw [hk, self]; simp) (fun hk => by rw [oth k hk]; simp) }
  · rw [not_or] at hk
    refine ⟨by simp [outs, hk.1, hk.2], by simp [Nm.updIn, hk.1], fun b => by simp [Nm.updIn, hk.1, hk.2], fun p v u => by simp [Nm.updIn, hk.1]⟩
  · rcases hb with hb | hb
    · exact .inl hb
    · rcases hro b hb with h2 | h2
      · exact .inr (.inl h2.1)
      · exact .inr (.inr ⟨r, .inl rfl, h2⟩)
  · rcases hk with hk | hk
    · subst hk
      rw [self]
      refine ⟨by rw [νs]; exact h1, ?_⟩
      rw [νs]
      exact hd.blkEq Fs
    · rw [oth k hk]; exact Fo k hk
  · rcases hk with hk | hk
    · subst hk
      rw [self, νs]
      rcases hg with hg | ⟨_, hg⟩
      · exact hold p v u hg
      · rcases hg with ⟨rfl, rfl, rfl⟩ | ⟨h2, h3, h4, rfl, h5⟩
        · exact ⟨Nat.le_refl _, fun _ => rfl⟩
        · cases p with
          | nil => exact absurd rfl h2
          | cons q p => exact ⟨Nat.le_refl _, fun _ _ _ => h5⟩
    · rw [oth k hk]; trivial
  · rcases hk with hk | hk
    · subst hk
      rw [self]
      refine ⟨.inr ⟨rfl, .inl ⟨rfl, rfl, νs⟩⟩, fun p u h2 h3 h4 h5 => .inr ⟨rfl, .inr ⟨h2, h3, h4, rfl, by rwa [νs] at h5⟩⟩⟩
    · rw [oth k hk]; trivial
  · rcases hg with hg | ⟨hk', hg⟩
    · exact h.one k p v u hg
    · subst hk'
      rcases hg with ⟨rfl, rfl, rfl⟩ | ⟨h2, h3, h4, rfl, h5⟩
      · exact h1
      · subst h4
        exact Qgbe p d _ _ ν T xs u hd (fun _ h => h) h1 h3 h5
  · rcases hk with hk | hk
    · subst hk
      rcases hF b ((Fs b).1 hb) with h2 | h2 | ⟨k', h2, h3⟩
      · exact .inl ⟨k, .inl rfl, h2⟩
      · exact .inr h2
      · exact .inl ⟨k', .inr h2, h3⟩
    · exact absurd hb (Fo k hk b)
  · have : ∀ k, (k = r ∨ k ∈ inn) → (N.updIn r ν F (rowG C w' T xs ν d vr vn m) ro (· ∈ inn)).F k b → k = r := fun k hk hb => hk.elim id (fun hk => absurd hb (Fo k hk b))
    exact (this k hk hb).trans (this k' hk' hb').symm
  · rcases hk with hk | hk
    · subst hk
      have hb := (Fs b).1 hb
      rintro (h2 | h2)
      · rcases hF b hb with h3 | h3 | ⟨k', _, h3⟩
        · exact h.roNot k b h3 h2
        · exact absurd (h.roLt b h2) (by omega)
        · exact h.roNot k' b h3 h2
      · exact hroF b hb h2
    · exact absurd hb (Fo k hk b)
  · rcases hb with hb | hb
    · exact Nat.lt_of_lt_of_le (h.roLt b hb) hsz
    · rcases hro b hb with h2 | h2
      · exact h2.2
      · exact Nat.lt_of_lt_of_le ((h.obj r).lt hC h2) hsz

theorem Qifr (w : World) (g : Nat) (old cs : Array Value) (t : TypeId) (hg : w.heap[g]? = some (.cells old t (0, 0))) :
    (w.setRow g cs).heap[g]? = some (.cells cs t (0, 0)) ∧ (∀ b, b ≠ g → (w.setRow g cs).heap[b]? = w.heap[b]?) ∧ (w.setRow g cs).heap.size = w.heap.size ∧ (w.setRow g cs).os = w.os ∧ (w.setRow g cs).tape = w.tape ∧ (w.setRow g cs).output = w.output :=
  ⟨setRow_heap w g old cs t _ hg, fun b hb => setRow_other w g b cs hb, by simp [World.setRow], rfl, rfl, rfl⟩

theorem Qq58 {w : World} {g o : Nat} {t ct : TypeId} {i : TypeInfo} {cur : Array Value} {v : Value} (hi : P.info? t = some i) (hg : w.heap[g]? = some (.cells cur ct (0, 0)))
    (hs : v.cells.size = i.size) (hle : o + v.cells.size ≤ cur.size) (h1 : ∀ u ∈ v.cells.toList, u.oneCell' = true) :
    (storeVar t ⟨g, o, none⟩ v).run P w = .ok () (w.setRow g (Qltv cur.toList o v.cells.toList).toArray) := by
  unfold storeVar
  simp only [Sem.run_bind, Qvtr hi, Result.andThen_ok, hs, ne_eq, not_true_eq_false, if_false, Sem.run_pure]
  have := run_storeCells_at (P := P) g o ct v.cells.toList 0 cur w hg (by simpa using hle) h1
  simpa [Qltv] using this

theorem Qdnj {C : Cod Ty El} {hp : Nat → AObj Ty El} {r : Nat} {p : Path} {vn d i j : Nat} {old x : AV Ty El} {s : CellSt Ty El} (h : Qov5 C hp r p vn d i j old x = some s) : oneA x = true := by
  unfold Qov5 at h
  cases x <;> first | rfl | cases h
theorem Qwcg {C : Cod Ty El} {hp : Nat → AObj Ty El} {r : Nat} {p : Path} {vn d i : Nat} : ∀ (xs os : List (AV Ty El)) (j : Nat) (cs : List (AV Ty El)) (g : Bool) (inn : List Nat) (dm : Nat), Qdl0 C hp r p vn d i xs os j = some (cs, g, inn, dm) → xs.all oneA = true ∧ dm ≤ d
  | [], os, j, cs, g, inn, dm, h => by
    simp only [Qdl0, Option.some.injEq, Prod.mk.injEq] at h
    exact ⟨rfl, by omega⟩
  | x :: xs, [], j, cs, g, inn, dm, h => by simp [Qdl0] at h
  | x :: xs, o :: os, j, cs, g, inn, dm, h => by
    simp only [Qdl0] at h
    split at h
    · cases h
    · rename_i s hs
      split at h
      · cases h
      · rename_i cs' g' inn' dm' hr
        simp only [Option.some.injEq, Prod.mk.injEq] at h
        obtain ⟨h1, h2⟩ := Qwcg xs os (j + 1) cs' g' inn' dm' hr
        exact ⟨by simp [Qdnj hs, h1], by omega⟩

theorem Qqck (vr vn : Nat) : vr < bump vr vn ∧ vn < bump vr vn := by unfold bump; omega
end
end Lx
namespace Lx
open Go
section
variable {Ty : Type} {El : Ty → Type} {C : Cod Ty El} {P : Program}

theorem Q69l {hp : Nat → AObj Ty El} {r : Nat} {p : Path} {v : Nat} {T : Ty} {xs : List (El T)} {d vr vn : Nat} {s : (S : Ty) × List (El S)} (hr : hp r = .row T xs d vr vn .no) (hs : subA C T xs p = some s) (hl : p.length ≤ d) (hv : v = verAt p vr vn) :
  rowAt C hp r p v = some ⟨s.1,s.2,d - p.length,vn⟩:=by
 unfold rowAt
 rw [hr]
 cases p with
 | nil =>
  simp only [subA,Option.some.injEq] at hs
  subst hs
  simp only [verAt] at hv
  simp [hv]
 | cons q p =>
  simp only [verAt] at hv
  simp only [List.length_cons] at hl
  simp only [hv,if_true,hs,List.length_cons]
  rw [if_pos (by omega)]

theorem deepK.mono (hC : CodOK P C) {N N' : Nm} {w w' : World} (hL : Le N N' w w') {d : Nat} {m : Path → Prop} {i j : Nat} {u : Value} {c : AV Ty El} {F : Nat → Prop} (h : deepK C N w (Deep C N w d) m i j u c F) (hw : ∀ b,F b → w'.heap[b]? = w.heap[b]?) : deepK C N' w' (Deep C N' w' d) m i j u c F:=by
 cases c with
 | sl U zs=>exact h.imp id (fun h=>⟨h.1,Deep.mono hC hL d _ _ _ _ _ h.2 hw⟩)
 | _=>exact flatK.mono hL h

theorem Deep.store (hC : CodOK P C) {N N' : Nm} {w w' : World} (hL : Le N N' w w') {d : Nat} {m : Path → Prop} {B : Nat → Prop} {g n cap : Nat} {S : Ty} {ys : List (El S)} (h : Deep C N w d m B (.slice (some ⟨g,0,none⟩) n cap) S ys) {i j : Nat} {us : List Value} {cs : List (AV Ty El)} {y : El S}
  (hm : ∀ q,m q → ∃ k,k < cs.length ∧ q = [(i,j + k)])
  (hi : i < ys.length) (hl : us.length = cs.length) (hj : j + cs.length ≤ C.sz S) (hy : C.row S y = Qltv (C.row S (ys.getD i (C.dflt S))) j cs) {cur : Array Value} {ct : TypeId} (hg : w.heap[g]? = some (.cells cur ct (0,0)))
  (hg' : w'.heap[g]? = some (.cells (Qltv cur.toList (i * C.sz S + j) us).toArray ct (0,0))) (hoth : ∀ b,b ≠ g → w'.heap[b]? = w.heap[b]?) (hone : ∀ u ∈ us,u.oneCell' = true) (Ok : Nat → (Nat → Prop) → Prop)
  (hk : ∀ k u c,us[k]? = some u → cs[k]? = some c → ((∀ q,¬ m q) ∧ (C.row S (ys.getD i (C.dflt S)))[j + k]? = some c ∧ w.cell? ⟨g,i * C.sz S + j + k,none⟩ = some u) ∨
   ∃ F,((d = 0 → flatK C N w u c F) ∧ ∀ d',d = d' + 1 → deepK C N w (Deep C N w d') mskNo i (j + k) u c F) ∧ (∀ b,F b → ¬ B b) ∧ Ok k F)
  (hGG : ∀ k k' F F' b,Ok k F → Ok k' F' → F b → F' b → k = k') :
  ∃ B'' : Nat → Prop,Deep C N' w' d mskNo B'' (.slice (some ⟨g,0,none⟩) n cap) S (ys.set i y) ∧ (∀ b,B'' b → B b ∨ ∃ k F,Ok k F ∧ F b):=by
 have hBg : B g:=by
  obtain ⟨K,⟨e,cells,Fs,h⟩,_⟩:=h.row
  exact (h.blk g).2 (.inl rfl)
 have core : ∀ {K K' : Nat → Nat → Value → AV Ty El → (Nat → Prop) → Prop},RowD C w K B (.slice (some ⟨g,0,none⟩) n cap) S ys →
   (∀ i' j' u c F,¬ (i' = i ∧ j ≤ j' ∧ j' < j + cs.length) ∨ (∀ q,¬ m q) → (∀ b,F b → b ≠ g) → K i' j' u c F → K' i' j' u c F) → (∀ k u c F,((d = 0 → flatK C N w u c F) ∧ ∀ d',d = d' + 1 → deepK C N w (Deep C N w d') mskNo i (j + k) u c F) → (∀ b,F b → ¬ B b) → K' i (j + k) u c F) →
   ∃ B'' : Nat → Prop,RowD C w' K' B'' (.slice (some ⟨g,0,none⟩) n cap) S (ys.set i y) ∧ (∀ b,B'' b → B b ∨ ∃ k F,Ok k F ∧ F b):=by
  intro K K' hr hKK hKn
  obtain ⟨e,cells,Fs,hr⟩:=hr
  have hB : ∀ i j b,i < ys.length → j < C.sz S → Fs i j b → B b:=fun i j b h1 h2 h3=>(hr.blk b).2 (.inr ⟨i,j,h1,h2,h3⟩)
  have hFg : ∀ i' j',i' < ys.length → j' < C.sz S → ∀ b,Fs i' j' b → b ≠ g:=fun i' j' hi' hj' b hb e=>hr.sep0 i' j' b hi' hj' hb (by simp [Value.ownBlock,e])
  have ex : ∀ k,∃ G : Nat → Prop,∀ u c,us[k]? = some u → cs[k]? = some c → ((∀ q,¬ m q) ∧ (C.row S (ys.getD i (C.dflt S)))[j + k]? = some c ∧ w.cell? ⟨g,i * C.sz S + j + k,none⟩ = some u ∧ ∀ b,G b ↔ Fs i (j + k) b) ∨ (K' i (j + k) u c G ∧ (∀ b,G b → ¬ B b) ∧ Ok k G):=by
   intro k
   by_cases hk' : k < cs.length
   ·have h1 : us[k]? = some us[k]:=List.getElem?_eq_getElem (by omega)
    have h2 : cs[k]? = some cs[k]:=List.getElem?_eq_getElem hk'
    rcases hk k _ _ h1 h2 with h3 | ⟨F,h3,h4,h5⟩
    ·refine ⟨Fs i (j + k),fun u c hu hc=>.inl ?_⟩
     rw [h1] at hu; rw [h2] at hc
     obtain rfl:=Option.some.inj hu
     obtain rfl:=Option.some.inj hc
     exact ⟨h3.1,h3.2.1,h3.2.2,fun _=>Iff.rfl⟩
    ·refine ⟨F,fun u c hu hc=>.inr ?_⟩
     rw [h1] at hu; rw [h2] at hc
     obtain rfl:=Option.some.inj hu
     obtain rfl:=Option.some.inj hc
     exact ⟨hKn k _ _ F h3 h4,h4,h5⟩
   ·exact ⟨fun _=>False,fun u c _ hc=>by rw [List.getElem?_eq_none (by omega)] at hc; cases hc⟩
  let Gs : Nat → Nat → Prop:=fun k=>if k < cs.length then Classical.choose (ex k) else fun _=>False
  have hGs : ∀ k,k < cs.length → ∀ u c,us[k]? = some u → cs[k]? = some c → ((∀ q,¬ m q) ∧ (C.row S (ys.getD i (C.dflt S)))[j + k]? = some c ∧ w.cell? ⟨g,i * C.sz S + j + k,none⟩ = some u ∧ ∀ b,Gs k b ↔ Fs i (j + k) b) ∨ (K' i (j + k) u c (Gs k) ∧ (∀ b,Gs k b → ¬ B b) ∧ Ok k (Gs k)):=by
   intro k hk'
   have : Gs k = Classical.choose (ex k):=by simp [Gs,hk']
   rw [this]
   exact Classical.choose_spec (ex k)
  have hnew : ∀ k b,Gs k b → (k < cs.length ∧ Fs i (j + k) b) ∨ (Ok k (Gs k) ∧ ¬ B b):=by
   intro k b hb
   by_cases hk' : k < cs.length
   ·rcases hGs k hk' _ _ (List.getElem?_eq_getElem (by omega)) (List.getElem?_eq_getElem hk') with ⟨_,_,_,h3⟩ | ⟨_,h3,h4⟩
    ·exact .inl ⟨hk',(h3 b).1 hb⟩
    ·exact .inr ⟨h4,h3 b hb⟩
   ·simp [Gs,hk'] at hb
  obtain ⟨B'',h1,h2⟩:=hr.store (K':=K') hC hi hl hj hy hg hg' hone Gs (fun i' j' u c hi' hj' hne hk=>hKK i' j' u c _ (.inl hne) (hFg i' j' hi' hj') hk)
   (fun k u c hu hc=>by
    have hk' : k < cs.length:=(List.getElem?_eq_some_iff.1 hc).1
    rcases hGs k hk' u c hu hc with h3 | h3
    ·exact .inl ⟨h3.2.1,h3.2.2.1,h3.2.2.2,hKK i (j + k) u c _ (.inr h3.1) (hFg i _ hi (by omega))⟩
    ·exact .inr ⟨h3.1,h3.2.1⟩)
   (fun k k' b hb hb' hn=>by
    rcases hnew k b hb with h3 | h3
    ·exact absurd (hB i _ b hi (by omega) h3.2) hn
    ·rcases hnew k' b hb' with h4 | h4
     ·exact absurd (hB i _ b hi (by omega) h4.2) hn
     ·exact hGG k k' _ _ b h3.1 h4.1 hb hb')
  refine ⟨B'',h1,fun b hb=>?_⟩
  rcases h2 b hb with h3 | ⟨k,hk',h3⟩
  ·exact .inl h3
  ·rcases hnew k b h3 with h4 | h4
   ·exact .inl (hB i _ b hi (by omega) h4.2)
   ·exact .inr ⟨k,_,h4.1,h3⟩
 cases d with
 | zero =>
  exact core h (fun i' j' u c F _ _ hk=>flatK.mono hL hk) (fun k u c F hk _=>flatK.mono hL (hk.1 rfl))
 | succ d =>
  refine core h (fun i' j' u c F hne hF hk=>?_) (fun k u c F hk hF=>deepK.mono hC hL (hk.2 d rfl) (fun b hb=>hoth b (fun e=>hF b hb (e ▸ hBg))))
  have hmono:=deepK.mono hC hL hk (fun b hb=>hoth b (hF b hb))
  cases c with
  | sl U zs =>
   have hno : ∀ q,¬ m ((i',j') :: q):=by
    intro q hq
    rcases hne with hne | hne
    ·obtain ⟨k,hk',e⟩:=hm _ hq
     simp only [List.cons.injEq,Prod.mk.injEq] at e
     exact hne ⟨e.1.1,by omega,by omega⟩
    ·exact hne _ hq
   rcases hmono with h1 | h1
   ·exact absurd h1.1 (hno [])
   ·exact .inr ⟨fun h=>h,h1.2.mskEq (fun q=>⟨fun h=>h.elim,fun h=>hno q h⟩)⟩
  | _=>exact hmono
end
end Lx
namespace Lx
open Go
section
variable {Ty : Type} {El : Ty → Type} {C : Cod Ty El} {P : Program}

theorem Qmz8 (hC : CodOK P C) {X : Cx} {N : Nm} {tm : Nat → AV Ty El} {hp : Nat → AObj Ty El} {a : Act} {w : World} (h : SimN C X N tm hp a w) {t : TypeId} {v : Value} {x : AV Ty El} {r b off n : Nat} {gg : Bool} {cs : List (AV Ty El)}
  (hG : N.G r [] 0 (.pointer (some ⟨b,0,none⟩))) (hv : RepA C N w v x) (hbox : hp r = .box cs) (hs : szOf P t = some (gg,n)) (hlen : (cellsOf x).length = n) (hle : off + n ≤ cs.length) (hone : (cellsOf x).all oneA = true) :
  ∃ N' w',(Instr.storeAt t (.pointer (some ⟨b,off,none⟩)) v).run P w = .ok () w' ∧ SimN C X N' tm (setH hp r (.box (Qltv cs off (cellsOf x)))) a w':=by
 obtain ⟨d,i,hd,hi,_,hn⟩:=Qckr hs
 have ho:=h.hr.obj r
 have hreg:=h.hr.reg r [] 0 _ hG
 rw [hbox] at ho hreg
 obtain ⟨b',arr,ct,hν',hh,hsz,h1,hcc,hF⟩:=ho
 have hν:=hreg rfl rfl
 rw [hν'] at hν
 simp only [Value.pointer.injEq,Option.some.injEq,Addr.mk.injEq,and_true] at hν
 subst hν
 obtain ⟨hvs,hv1,hvr⟩:=hv.cells hone h.hr.one
 have hst:=Qq58 (P:=P) (v:=v) (o:=off) hi hh (by rw [hvs,hlen,hn]) (by rw [hvs,hsz]; omega) hv1
 obtain ⟨f1,f2,f3,f4,f5,f6⟩:=Qifr w b (arr) (Qltv arr.toList off v.cells.toList).toArray ct hh
 have hvl : v.cells.toList.length = (cellsOf x).length:=by simpa using hvs
 have hstep:=Step.box (r:=r) (cs:=Qltv cs off (cellsOf x)) hC h.hr (w':=w.setRow b (Qltv arr.toList off v.cells.toList).toArray) (fun b' _ hne=>f2 b' hne) (by rw [f3]; exact Nat.le_refl _) f1 (by
   simp only [List.size_toArray]
   rw [Qlai _ _ _ (by simp only [Array.length_toList,hvl]; omega),Qlai _ _ _ (by omega)]
   simpa using hsz)
  (fun u hu=>by
   simp only [Qltv,List.mem_toArray,List.mem_append] at hu
   rcases hu with hu | hu | hu
   ·exact h1 u (by simpa using List.mem_of_mem_take hu)
   ·exact hv1 u hu
   ·exact h1 u (by simpa using List.mem_of_mem_drop hu))
  (fun hL j u c hu hc=>by
   rw [List.getElem?_toArray,Qkjm _ _ _ _ (by simp only [Array.length_toList,hvl]; omega)] at hu
   rw [Qkjm _ _ _ _ (by omega)] at hc
   rw [hvl] at hu
   by_cases e1 : j < off
   ·rw [if_pos e1] at hu hc; exact (hcc j u c (by simpa using hu) hc).mono hL
   ·rw [if_neg e1] at hu hc
    by_cases e2 : j < off + (cellsOf x).length
    ·rw [if_pos e2] at hu hc; exact (hvr _ u c hu hc).mono hL
    ·rw [if_neg e2] at hu hc; exact (hcc j u c (by simpa using hu) hc).mono hL)
  (fun p v u hg hp hv=>by
   have:=h.hr.reg r p v u hg
   rw [hbox] at this
   exact (this hp hv).trans hν') (.inl hF) f4 f5 f6
 refine ⟨_,_,by simpa [Instr.storeAt,Instr.sureAddr] using hst,h.step hC hstep (fun k hk _ _=>?_)⟩
 subst hk
 exact ⟨by simp [stays,hbox],by simp [hν']⟩

theorem Q7rv {w : World} {K : Nat → Nat → Value → AV Ty El → (Nat → Prop) → Prop} {B : Nat → Prop} {g n cap : Nat} {S : Ty} {ys : List (El S)} {e : TypeId} {cells : List Value} {Fs : Nat → Nat → Nat → Prop} (h : RowI C w K B (.slice (some ⟨g,0,none⟩) n cap) S ys e cells Fs) :
  ∃ cur,w.heap[g]? = some (.cells cur e (0,0)) ∧ n = ys.length ∧ n ≤ cap ∧ cur.size = cap * C.sz S ∧ B g:=by
 rcases h.own.2 with ⟨hv,_⟩ | ⟨g',cap',cur,hv,hb0,hh,hle',hcm,hsz,htk⟩
 ·cases hv
 ·simp only [Value.slice.injEq,Option.some.injEq,Addr.mk.injEq,and_true] at hv
  obtain ⟨rfl,rfl,rfl⟩:=hv
  exact ⟨cur,hh,rfl,hle',hsz,(h.blk g).2 (.inl rfl)⟩

theorem Q7dg (hC : CodOK P C) {X : Cx} {N : Nm} {tm : Nat → AV Ty El} {hp : Nat → AObj Ty El} {a : Act} {w : World} (h : SimN C X N tm hp a w) {t : TypeId} {v : Value} {x : AV Ty El} {r b i j nn cap n : Nat} {gg : Bool} {p : Path} {ver : Nat} {R : Row Ty El} {T0 : Ty} {xs0 xs' : List (El T0)} {d0 vr vn dm : Nat} {cs : List (AV Ty El)} {inn : List Nat} {y : El R.T}
  (hG : N.G r p ver (.slice (some ⟨b,0,none⟩) nn cap)) (hin : i < nn) (hv : RepA C N w v x) (hrow : hp r = .row T0 xs0 d0 vr vn .no) (hR : rowAt C hp r p ver = some R) (hs : szOf P t = some (gg,n)) (hlen : (cellsOf x).length = n)
  (hle : j + n ≤ (C.row R.T (R.xs.getD i (C.dflt R.T))).length) (hst : Qdl0 C hp r p vn R.d i (cellsOf x) ((C.row R.T (R.xs.getD i (C.dflt R.T))).drop j) j = some (cs,true,inn,dm)) (hun : C.unrow R.T (Qltv (C.row R.T (R.xs.getD i (C.dflt R.T))) j cs) = some y)
  (hset : setA C T0 xs0 p R.T (R.xs.set i y) = some xs') (hnd : inn.Nodup) :
  ∃ N' w',(Instr.storeAt t (.pointer (some ⟨b,i * C.sz R.T + j,none⟩)) v).run P w = .ok () w' ∧ r ∉ inn ∧ SimN C X N' tm (outs hp r (.row T0 xs' (p.length + dm) vr (bump vr vn) .no) inn) a w':=by
 obtain ⟨td,ti,htd,hti,_,htn⟩:=Qckr hs
 obtain ⟨T1,xs1,d1,vr1,hr1,hsub,hpl,hRd,hver⟩:=Qy3i hR
 have hrow':=hr1
 rw [hrow] at hrow'
 simp only [AObj.row.injEq] at hrow'
 obtain ⟨rfl,hxs,rfl,rfl,rfl,_⟩:=hrow'
 have hxs:=eq_of_heq hxs
 subst hxs
 obtain ⟨hcone,hdm⟩:=Qwcg _ _ _ _ _ _ _ hst
 obtain ⟨hvs,hv1,hvr⟩:=hv.cells hcone h.hr.one
 have hrl : (C.row R.T (R.xs.getD i (C.dflt R.T))).length = C.sz R.T:=hC.len _ _

 obtain ⟨N1,hp1,hP,hcl,_,subs,hs1,hs2,hs3⟩:=Qjgt hC hdm _ _ v.cells.toList j N hp cs true inn dm h hst rfl (Nat.le_refl _) hnd (fun _ _=>rfl) (by simpa using hvs) hvr (fun c hc=>hC.cell _ _ c (List.mem_of_mem_drop hc))
 have hrin : r ∉ inn:=fun hr=>(hP.ne r hr).1 rfl
 have hrow1 : hp1 r = .row T0 xs0 d0 vr R.vn .no:=(hP.out r hrin).2.trans hrow

 obtain ⟨N2,hS2,hL2,hν2,hF2,hsm2⟩:=hP.sim.freeze (vn':=R.vn) (d':=p.length + dm) hC hrow1 (by omega) (Nat.le_refl _)
 have hrow2 : setH hp1 r (.row T0 xs0 (p.length + dm) vr R.vn .no) r = .row T0 xs0 (p.length + dm) vr R.vn .no:=Q3el _ _ _
 generalize hhp2 : setH hp1 r (.row T0 xs0 (p.length + dm) vr R.vn .no) = hp2 at hS2 hrow2
 have hLN2 : Le N N2 w w:=⟨fun r p v u h=>hL2.G _ _ _ _ (hP.le.G _ _ _ _ h),fun b h=>hL2.ro b (hP.le.ro b h),fun _ _=>rfl⟩
 have hG2:=hLN2.G _ _ _ _ hG
 have hR2:=Q69l (C:=C) hrow2 hsub (by omega) hver
 obtain ⟨_,_,_,_,hr2',hsub2,hpl2,_,hh2,hdeep2,hroot2,_⟩:=Q2c6 hC hS2.hr hR2 hG2
 rw [hrow2] at hr2'
 simp only [AObj.row.injEq] at hr2'
 obtain ⟨rfl,hxs,rfl,rfl,_,_⟩:=hr2'
 have hxs:=eq_of_heq hxs
 subst hxs
 obtain ⟨B',hB',hB0,hBn,_,hdR,hreb,_⟩:=hdeep2.focus hC p _ _ _ _ _ T0 R.T xs0 R.xs (fun _ h=>h) (by omega) hh2 hsub2
 have hde : p.length + dm - p.length = dm:=by omega
 rw [hde] at hdR hreb

 obtain ⟨cur,ct,hcur,hnn,hncap,hcsz,hBb⟩ : ∃ cur ct,w.heap[b]? = some (.cells cur ct (0,0)) ∧ nn = R.xs.length ∧ nn ≤ cap ∧ cur.size = cap * C.sz R.T ∧ B' b:=by
  obtain ⟨K,⟨e,cells,Fs,hri⟩,_⟩:=hdR.row
  obtain ⟨cur,h1,h2,h3,h4,h5⟩:=Q7rv hri
  exact ⟨cur,e,h1,h2,h3,h4,h5⟩
 subst hnn
 have hmul : i * C.sz R.T + C.sz R.T ≤ R.xs.length * C.sz R.T:=by rw [← Nat.succ_mul]; exact Nat.mul_le_mul_right _ hin
 have hmul2 : R.xs.length * C.sz R.T ≤ cap * C.sz R.T:=Nat.mul_le_mul_right _ hncap
 have hvl : v.cells.toList.length = (cellsOf x).length:=by simpa using hvs
 have hrun:=Qq58 (P:=P) (v:=v) (o:=i * C.sz R.T + j) hti hcur (by rw [hvs,hlen,htn]) (by rw [hcsz,hvs]; omega) hv1
 obtain ⟨f1,f2,f3,f4,f5,f6⟩:=Qifr w b cur (Qltv cur.toList (i * C.sz R.T + j) v.cells.toList).toArray ct hcur
 generalize hW : w.setRow b (Qltv cur.toList (i * C.sz R.T + j) v.cells.toList).toArray = W at *
 have hbF : N2.F r b:=hB' b hBb
 have hroW : ∀ b',N2.ro b' → W.heap[b']? = w.heap[b']?:=fun b' hb'=>f2 b' (fun e=>hS2.hr.roNot r b hbF (e ▸ hb'))

 have Nd : ∀ F : Nat → Prop,Le N2 (N2.updIn r (N2.ν r) F (rowG C W T0 xs' (N2.ν r) (p.length + dm) vr (bump vr R.vn) .no) (fun _=>False) (· ∈ inn)) w W:=fun F=>⟨fun _ _ _ _ h=>.inl h,fun _ h=>.inl h,hroW⟩
 have hyrow:=hC.unrow _ _ _ hun
 obtain ⟨B'',hB1,hB2⟩:=Deep.store hC (Nd fun _=>False) hdR (i:=i) (j:=j) (us:=v.cells.toList) (cs:=cs) (y:=y) (fun q h=>h.elim) hin (by rw [hvl,hcl]) (by rw [hcl,hlen,← hrl]; omega) hyrow hcur f1 f2 hv1
  (fun k F=>(∀ b,F b → ∃ k' ∈ subs k,N2.F k' b))
  (fun k u c hu hc=>by
   obtain ⟨_,hk⟩:=hs3 k u c hu hc
   rcases hk with ⟨o,ho,hk1,hrd,hk2⟩ | ⟨F,hk,hF⟩
   ·refine .inl ⟨fun _ h=>h, ?_, ?_⟩
    ·rw [List.getElem?_drop] at ho
     rw [ho,hk1]
    ·
     have hjk : (C.row R.T (R.xs.getD i (C.dflt R.T)))[j + k]? = some o:=by rw [List.getElem?_drop] at ho; exact ho
     have hreg:=h.hr.reg r _ _ _ hk2
     rw [hrow] at hreg
     have hone : (p ++ [(i,j + k)]) ≠ []:=by simp
     have hlen' : (p ++ [(i,j + k)]).length = p.length + 1:=by simp
     have hhd : hdr C w T0 xs0 (N.ν r) (p ++ [(i,j + k)]) = some u:=by
      have : ∀ q,q = p ++ [(i,j + k)] → refOK C w (N.ν r) q R.vn u (.row T0 xs0 d0 vr R.vn .no) → hdr C w T0 xs0 (N.ν r) (p ++ [(i,j + k)]) = some u:=by
       intro q hq hr
       cases q with
       | nil=>exact absurd hq.symm hone
       | cons q0 q =>
        rw [← hq]
        exact hr.2 rfl rfl (by rw [hq,hlen']; omega)
      exact this _ rfl hreg
     obtain ⟨T2,xs2,d2,vr2,e2,e3,_,_,hh,_,_,_⟩:=Q2c6 hC h.hr hR hG
     rw [hrow] at e2
     simp only [AObj.row.injEq] at e2
     obtain ⟨rfl,e4,_⟩:=e2
     have e4:=eq_of_heq e4
     subst e4
     rw [Qif0 p [(i,j + k)] T0 R.T xs0 R.xs _ _ hh hsub] at hhd
     rw [Qdb4,if_pos hin,hjk] at hhd
     cases o with
     | sl U zs =>
      simp only at hhd
      split at hhd
      ·rename_i u' hu'
       simp only [hdr,Option.some.injEq] at hhd
       subst hhd
       rw [← hu',Nat.add_assoc]
      ·cases hhd
     | _=>simp at hhd
   ·refine .inr ⟨F, ?_,fun b' hb' hB=>?_,fun b' hb'=>?_⟩
    ·have hkk:=CellG.k hC (hk.mono hC hL2 (fun _ h=>h) (fun r' hr'=>hsm2 r' (fun e=>hrin (e ▸ hs2 _ _ hr'))) (fun _ _ _ _=>rfl))
     exact ⟨hkk.1,fun d' hd'=>hkk.2 d' i (j + k) hd'⟩
    ·obtain ⟨k',hk',hb2⟩:=hF b' hb'
     have hne : k' ≠ r:=fun e=>hrin (e ▸ hs2 _ _ hk')
     exact hne (hS2.hr.dist k' r b' (((hsm2 k' hne).F b').2 hb2) (hB' b' hB))
    ·obtain ⟨k',hk',hb2⟩:=hF b' hb'
     have hne : k' ≠ r:=fun e=>hrin (e ▸ hs2 _ _ hk')
     exact ⟨k',hk',((hsm2 k' hne).F b').2 hb2⟩)
  (fun k k' F F' b' h1 h2 h3 h4=>by
   obtain ⟨r1,hr1,hb1⟩:=h1 b' h3
   obtain ⟨r2,hr2,hb2⟩:=h2 b' h4
   have:=hS2.hr.dist r1 r2 b' hb1 hb2
   subst this
   exact hs1 k k' r1 hr1 hr2)
 have hBB : ∀ b',B'' b' → B' b' ∨ ∃ k ∈ inn,N2.F k b':=fun b' hb'=>(hB2 b' hb').imp id (fun ⟨k,F,hF,hb2⟩=>by
  obtain ⟨k',hk',hb3⟩:=hF b' hb2
  exact ⟨k',hs2 _ _ hk',hb3⟩)
 have hwhole:=hreb _ W B'' (R.xs.set i y) xs' (Nd fun _=>False) (fun b' hb' hn=>f2 b' (fun e=>hn (e ▸ hBb))) hset hB1 (fun b' hb'=>by
  rcases hBB b' hb' with h1 | ⟨k,hk,h1⟩
  ·exact .inl h1
  ·refine .inr (fun hFr=>hrin ?_)
   have:=hS2.hr.dist k r b' h1 hFr
   exact this ▸ hk)
 have hinn2 : ∀ k ∈ inn,k ≠ r ∧ hp2 k ≠ .gone:=fun k hk=>by
  have hne:=(hP.ne k hk).1
  refine ⟨hne, ?_⟩
  rw [← hhp2,Qte0 _ _ hne]
  exact (hP.ne k hk).2
 have hstep:=Step.rowIn (r:=r) (xs:=xs') (d:=p.length + dm) (vr:=vr) (vn:=bump vr R.vn) (m:=.no) (ν:=N2.ν r) (F:=fun b'=>(N2.F r b' ∧ ¬ B' b') ∨ B'' b') (ro:=fun _=>False) (inn:=inn) hC hS2.hr (w':=W) hinn2
  (fun b' _ hn=>f2 b' (fun e=>hn (e ▸ hbF))) (by rw [f3]; exact Nat.le_refl _) (by
   have:=hS2.hr.obj r
   rw [hrow2] at this
   exact this.1)
  (fun hL=>by
   refine Deep.mono hC (N:=N2.updIn r (N2.ν r) (fun _=>False) (rowG C W T0 xs' (N2.ν r) (p.length + dm) vr (bump vr R.vn) .no) (fun _=>False) (· ∈ inn)) (N':=N2.updIn r (N2.ν r) (fun b'=>(N2.F r b' ∧ ¬ B' b') ∨ B'' b') (rowG C W T0 xs' (N2.ν r) (p.length + dm) vr (bump vr R.vn) .no) (fun _=>False) (· ∈ inn)) (w:=W) ⟨fun _ _ _ _ h=>h,fun _ h=>h,fun _ _=>rfl⟩ _ _ _ _ _ _ hwhole (fun _ _=>rfl))
  (fun q v' u' hg=>by
   have hreg:=hS2.hr.reg r q v' u' hg
   rw [hrow2] at hreg
   cases q with
   | nil=>exact hreg
   | cons q0 q =>
    have hb:=(Qqck vr R.vn).2
    exact ⟨by have:=hreg.1; omega,fun _ e _=>by have:=hreg.1; omega⟩)
  (fun b' hb'=>by
   rcases hb' with hb' | hb'
   ·exact .inl hb'.1
   ·rcases hBB b' hb' with h1 | h1
    ·exact .inl (hB' b' h1)
    ·exact .inr (.inr h1))
  (fun b' hb'=>hb'.elim) (fun b' _ hb'=>hb') f4 f5 f6
 have e : outs hp r (.row T0 xs' (p.length + dm) vr (bump vr R.vn) .no) inn = outs hp2 r (.row T0 xs' (p.length + dm) vr (bump vr R.vn) .no) inn:=by
  funext k
  unfold outs
  by_cases e1 : k = r
  ·simp [e1]
  ·by_cases e2 : k ∈ inn
   ·simp [e1,e2]
   ·simp only [e1,e2,if_false]
    rw [← hhp2,Qte0 _ _ e1,(hP.out k e2).2]
 have hsim:=hS2.step hC hstep (fun k hk _ hst=>by
  rcases hk with hk | hk
  ·subst hk
   simp only [stays,outs,if_true] at hst
   exact ⟨by simpa [stays,hrow2] using hst,by simp [Nm.updIn]⟩
  ·simp [stays,outs,(hinn2 k hk).1,hk] at hst)
 rw [← e] at hsim
 exact ⟨_,W,by simpa [Instr.storeAt,Instr.sureAddr] using hrun,hrin,hsim⟩

theorem Qg40 (hC : CodOK P C) {X : Cx} {N : Nm} {tm : Nat → AV Ty El} {hp : Nat → AObj Ty El} {a : Act} {w : World} (h : SimN C X N tm hp a w) {t : TypeId} {v : Value} {r r' b i j nn cap : Nat} {gg : Bool} {T0 U : Ty} {xs0 : List (El T0)} {zs zs0 : List (El U)} {d0 d' vr vn vr' vn' : Nat} {y : El T0}
  (hG : N.G r [] vr (.slice (some ⟨b,0,none⟩) nn cap)) (hin : i < nn) (hv : N.G r' [] vr' v) (hrow : hp r = .row T0 xs0 d0 vr vn (.hole [(i,j)])) (hrow' : hp r' = .row U zs d' vr' vn' .no) (hne : r' ≠ r) (hs : szOf P t = some (gg,1))
  (hc : (C.row T0 (xs0.getD i (C.dflt T0)))[j]? = some (.sl U zs0)) (hd0 : 0 < d0) (hd : min (d0 - 1) (C.hgt U) ≤ d') (hun : C.unrow T0 (Qltv (C.row T0 (xs0.getD i (C.dflt T0))) j [.sl U zs]) = some y) :
  ∃ N' w',(Instr.storeAt t (.pointer (some ⟨b,i * C.sz T0 + j,none⟩)) v).run P w = .ok () w' ∧ SimN C X N' tm (outs hp r (.row T0 (xs0.set i y) d0 vr (bump vr vn) .no) [r']) a w':=by
 obtain ⟨td,ti,htd,hti,_,htn⟩:=Qckr hs
 have hν : v = N.ν r':=by
  have:=h.hr.reg r' [] vr' v hv
  rw [hrow'] at this
  exact this.2 rfl
 have hνr : Value.slice (some ⟨b,0,none⟩) nn cap = N.ν r:=by
  have:=h.hr.reg r [] vr _ hG
  rw [hrow] at this
  exact this.2 rfl
 have hjs:=RowI.sz hC hc

 obtain ⟨N2,hS2,hL2,hν2,hF2,hsm2⟩:=h.freeze (vn':=vn') (d':=min d' (d0 - 1)) hC hrow' (Nat.min_le_left _ _) (Nat.le_refl _)
 have hrow2 : setH hp r' (.row U zs (min d' (d0 - 1)) vr' vn' .no) r = .row T0 xs0 d0 vr vn (.hole [(i,j)]):=by rw [Qte0 _ _ (fun e=>hne e.symm)]; exact hrow
 have hr2' : setH hp r' (.row U zs (min d' (d0 - 1)) vr' vn' .no) r' = .row U zs (min d' (d0 - 1)) vr' vn' .no:=Q3el _ _ _
 generalize hhp2 : setH hp r' (.row U zs (min d' (d0 - 1)) vr' vn' .no) = hp2 at hS2 hrow2 hr2'
 have ho':=hS2.hr.obj r'
 rw [hr2'] at ho'
 have hdv : Deep C N2 w (d0 - 1) mskNo (N2.F r') v U zs:=by
  have h1:=ho'.2
  rw [hν2 r',← hν] at h1
  have h1 : Deep C N2 w (min d' (d0 - 1)) mskNo (N2.F r') v U zs:=h1
  by_cases hle : d0 - 1 ≤ d'
  ·rwa [Nat.min_eq_right hle] at h1
  ·exact Deep.hgt hC _ _ _ _ _ _ _ (by omega) (by omega) (fun _ h=>h) h1
 have ho:=hS2.hr.obj r
 rw [hrow2] at ho
 have hdr : Deep C N2 w d0 (fun q=>q = [(i,j)]) (N2.F r) (.slice (some ⟨b,0,none⟩) nn cap) T0 xs0:=by
  have:=ho.2
  rw [hν2 r,← hνr] at this
  exact this
 have hvone : v.oneCell' = true:=h.hr.one _ _ _ _ hv
 have hvcells : v.cells = #[v]:=by
  cases v <;> first | rfl | (simp [Value.oneCell'] at hvone; done)
 obtain ⟨cur,ct,hcur,hnn,hncap,hcsz,hBb⟩ : ∃ cur ct,w.heap[b]? = some (.cells cur ct (0,0)) ∧ nn = xs0.length ∧ nn ≤ cap ∧ cur.size = cap * C.sz T0 ∧ N2.F r b:=by
  obtain ⟨K,⟨e,cells,Fs,hri⟩,_⟩:=hdr.row'
  obtain ⟨cur,h1,h2,h3,h4,h5⟩:=Q7rv hri
  exact ⟨cur,e,h1,h2,h3,h4,h5⟩
 subst hnn
 have hmul : i * C.sz T0 + C.sz T0 ≤ xs0.length * C.sz T0:=by rw [← Nat.succ_mul]; exact Nat.mul_le_mul_right _ hin
 have hmul2 : xs0.length * C.sz T0 ≤ cap * C.sz T0:=Nat.mul_le_mul_right _ hncap
 have hrun:=Qq58 (P:=P) (v:=v) (o:=i * C.sz T0 + j) hti hcur (by rw [hvcells,htn]; rfl) (by rw [hcsz,hvcells]; simp; omega) (by rw [hvcells]; intro u hu; simp at hu; subst hu; exact hvone)
 rw [hvcells] at hrun
 obtain ⟨f1,f2,f3,f4,f5,f6⟩:=Qifr w b cur (Qltv cur.toList (i * C.sz T0 + j) [v]).toArray ct hcur
 generalize hW : w.setRow b (Qltv cur.toList (i * C.sz T0 + j) [v]).toArray = W at *
 have hroW : ∀ b',N2.ro b' → W.heap[b']? = w.heap[b']?:=fun b' hb'=>f2 b' (fun e=>hS2.hr.roNot r b hBb (e ▸ hb'))
 have Nd : ∀ F : Nat → Prop,Le N2 (N2.updIn r (N2.ν r) F (rowG C W T0 (xs0.set i y) (N2.ν r) d0 vr (bump vr vn) .no) (fun _=>False) (· ∈ [r'])) w W:=fun F=>⟨fun _ _ _ _ h=>.inl h,fun _ h=>.inl h,hroW⟩
 have hFne : ∀ b',N2.F r' b' → ¬ N2.F r b':=fun b' h1 h2=>hne (hS2.hr.dist r' r b' h1 h2)
 obtain ⟨B'',hB1,hB2⟩:=Deep.store hC (Nd fun _=>False) hdr (i:=i) (j:=j) (us:=[v]) (cs:=[.sl U zs]) (y:=y) (fun q hq=>⟨0,by simp,hq⟩) hin rfl (by simp; omega) (hC.unrow _ _ _ hun) hcur f1 f2 (fun u hu=>by simp at hu; subst hu; exact hvone)
  (fun k F=>F = N2.F r' ∧ k = 0)
  (fun k u c hu hcc=>by
   cases k with
   | zero =>
    simp only [List.getElem?_cons_zero,Option.some.injEq] at hu hcc
    subst hu; subst hcc
    refine .inr ⟨N2.F r',⟨fun h0=>by omega,fun d2 hd2=>.inr ⟨fun h=>h, ?_⟩⟩,hFne,rfl,rfl⟩
    rw [show d2 = d0 - 1 by omega]
    exact hdv
   | succ k=>simp at hu)
  (fun k k' F F' b' h1 h2 _ _=>h1.2.trans h2.2.symm)
 have hstep:=Step.rowIn (r:=r) (xs:=xs0.set i y) (d:=d0) (vr:=vr) (vn:=bump vr vn) (m:=.no) (ν:=N2.ν r) (F:=B'') (ro:=fun _=>False) (inn:=[r']) hC hS2.hr (w':=W) (fun k hk=>by
   simp only [List.mem_singleton] at hk
   subst hk
   exact ⟨hne,by rw [hr2']; simp⟩)
  (fun b' _ hn=>f2 b' (fun e=>hn (e ▸ hBb))) (by rw [f3]; exact Nat.le_refl _) ho.1
  (fun hL=>by
   rw [hνr,← hν2 r] at hB1
   exact Deep.mono hC (N:=N2.updIn r (N2.ν r) (fun _=>False) (rowG C W T0 (xs0.set i y) (N2.ν r) d0 vr (bump vr vn) .no) (fun _=>False) (· ∈ [r'])) (N':=N2.updIn r (N2.ν r) B'' (rowG C W T0 (xs0.set i y) (N2.ν r) d0 vr (bump vr vn) .no) (fun _=>False) (· ∈ [r'])) (w:=W) ⟨fun _ _ _ _ h=>h,fun _ h=>h,fun _ _=>rfl⟩ _ _ _ _ _ _ hB1 (fun _ _=>rfl))
  (fun q v' u' hg=>by
   have hreg:=hS2.hr.reg r q v' u' hg
   rw [hrow2] at hreg
   cases q with
   | nil=>exact hreg
   | cons q0 q =>
    have hb:=(Qqck vr vn).2
    exact ⟨by have:=hreg.1; omega,fun _ e _=>by have:=hreg.1; omega⟩)
  (fun b' hb'=>by
   rcases hB2 b' hb' with h1 | ⟨k,F,⟨rfl,_⟩,h1⟩
   ·exact .inl h1
   ·exact .inr (.inr ⟨r',by simp,h1⟩))
  (fun b' hb'=>hb'.elim) (fun b' _ hb'=>hb') f4 f5 f6
 have e : outs hp r (.row T0 (xs0.set i y) d0 vr (bump vr vn) .no) [r'] = outs hp2 r (.row T0 (xs0.set i y) d0 vr (bump vr vn) .no) [r']:=by
  funext k
  unfold outs
  by_cases e1 : k = r
  ·simp [e1]
  ·by_cases e2 : k ∈ [r']
   ·simp only [e1,e2,if_true,if_false]
   ·simp only [e1,e2,if_false]
    rw [← hhp2,Qte0 _ _ (by simpa using e2)]
 have hsim:=hS2.step hC hstep (fun k hk _ hst=>by
  rcases hk with hk | hk
  ·subst hk
   simp only [stays,outs,if_true] at hst
   exact ⟨by simpa [stays,hrow2] using hst,by simp [Nm.updIn]⟩
  ·simp only [List.mem_singleton] at hk
   subst hk
   simp [stays,outs,hne] at hst)
 rw [← e] at hsim
 exact ⟨_,W,by simpa [Instr.storeAt,Instr.sureAddr] using hrun,hsim⟩

theorem Qdoy {hp : Nat → AObj Ty El} : ∀ (l l' : List (Nat × AObj Ty El)),updH hp (l ++ l') = updH (updH hp l) l':=by
 intro l
 induction l generalizing hp with
 | nil=>intro l'; rfl
 | cons p l ih=>intro l'; obtain ⟨r,o⟩:=p; simp only [List.cons_append,updH]; exact ih l'

theorem Qtwk (hC : CodOK P C) {X : Cx} {N : Nm} {tm : Nat → AV Ty El} {hp : Nat → AObj Ty El} {a : Act} {w : World} (h : SimN C X N tm hp a w) {t : TypeId} {va v : Value} {xa x : AV Ty El} {g : Bool} {ws : List (Nat × AObj Ty El)}
  (hva : RepA C N w va xa) (hv : RepA C N w v x) (hl : Q40g P C hp t x xa = some (g,ws)) (hg : g = true) :
  ∃ N' w',(Instr.storeAt t va v).run P w = .ok () w' ∧ SimN C X N' tm (updH hp ws) a w':=by
 subst hg
 unfold Q40g at hl
 split at hl
 ·rename_i r off
  split at hl
  ·rename_i cs hbox
   split at hl
   ·rename_i gg n hs
    split at hl
    ·rename_i hc
     simp only [Option.some.injEq,Prod.mk.injEq,true_and] at hl
     subst hl
     cases hva with
     | ptr r b off hG=>exact Qmz8 hC h hG hv hbox hs hc.1 hc.2.1 hc.2.2
    ·cases hl
   ·cases hl
  ·cases hl
 ·rename_i r p ver wd i j
  split at hl
  ·rename_i T0 xs0 d0 vr vn m hrow
   split at hl
   ·split at hl
    ·rename_i R hR
     split at hl
     ·rename_i gg n hs
      split at hl
      ·rename_i hc
       split at hl
       ·rename_i cs g inn dm hst
        split at hl
        ·rename_i y hun
         split at hl
         ·rename_i xs' hset
          split at hl
          ·rename_i hnd
           simp only [Option.some.injEq,Prod.mk.injEq] at hl
           obtain ⟨rfl,rfl⟩:=hl
           cases hva with
           | eptr r p ver wd i j b nn cap hG hin =>
            have hwd : wd = C.sz R.T:=hc.1
            subst hwd
            obtain ⟨N',w',h1,h2,h3⟩:=Q7dg hC h hG hin hv hrow hR hs hc.2.1 hc.2.2 hst hun hset (Qpqi hnd)
            exact ⟨N',w',h1,by rw [Q2dv h2]; exact h3⟩
          ·cases hl
         ·cases hl
        ·cases hl
       ·cases hl
      ·cases hl
     ·cases hl
    ·cases hl
   ·split at hl
    ·rename_i i' j' r' v'
     split at hl
     ·rename_i U zs0 U' zs d' vr' vn' hc hrow'
      split at hl
      ·rename_i hcond
       obtain ⟨hne,rfl,rfl,hwd,rfl,hd0,hsz,hd⟩:=hcond
       split at hl
       ·rename_i zs' hz
        split at hl
        ·rename_i y hun
         simp only [Option.some.injEq,Prod.mk.injEq,decide_eq_true_eq] at hl
         obtain ⟨rfl,rfl⟩:=hl
         obtain ⟨rfl,hz⟩:=Q9z4 hz
         simp only at hz
         subst hz
         have hs : ∃ gg,szOf P t = some (gg,1):=by
          cases hs : szOf P t with
          | none=>rw [hs] at hsz; simp at hsz
          | some q=>obtain ⟨gg,n⟩:=q; rw [hs] at hsz; simp at hsz; subst hsz; exact ⟨gg,rfl⟩
         obtain ⟨gg,hs⟩:=hs
         cases hva with
         | eptr r p ver wd i j b nn cap hG hin =>
          have hwd : wd = C.sz T0:=hwd
          subst hwd
          cases hv with
          | own _ _ _ _ hv =>
           obtain ⟨N',w',h1,h2⟩:=Qg40 hC h hG hin hv hrow hrow' hne hs hc hd0 hd hun
           refine ⟨N',w',h1, ?_⟩
           have:=Q2dv (hp:=hp) (o:=.row T0 (xs0.set i' y) d0 ver (bump ver vn) .no) (inn:=[r']) (r:=r) (by simp [Ne.symm hne])
           simp only [List.map_cons,List.map_nil] at this
           rw [this]; exact h2
        ·cases hl
       ·cases hl
      ·cases hl
     ·cases hl
    ·cases hl
  ·cases hl
 ·cases hl
end
end Lx
namespace Lx
open Go
section
variable {Ty : Type} {El : Ty → Type} {C : Cod Ty El} {P : Program}

theorem Qdnr (w : World) (o : Obj) : (w.alloc o).heap[w.heap.size]? = some o:=by
 show (w.heap.push o)[w.heap.size]? = some o
 simp
theorem Qn4u (w : World) (o : Obj) {b : Nat} (h : b < w.heap.size) : (w.alloc o).heap[b]? = w.heap[b]?:=by
 show (w.heap.push o)[b]? = w.heap[b]?
 rw [Array.getElem?_push,if_neg (Nat.ne_of_lt h)]
theorem Q541 (w : World) (o : Obj) : (w.alloc o).heap.size = w.heap.size + 1:=by
 show (w.heap.push o).size = _
 simp
theorem Qr4z (w : World) (e : TypeId) (cells : Array Value) : (newRow e cells).run P w = .ok ⟨w.heap.size,0,none⟩ (w.alloc (.cells cells e)):=rfl

theorem Q0mo (hC : CodOK P C) {X : Cx} {N : Nm} {tm : Nat → AV Ty El} {hp : Nat → AObj Ty El} {a : Act} {w : World} {r : Nat} (h : SimN C X N tm hp a w) (hg : hp r = .gone) {v : Value} {x : AV Ty El}
  (hv : RepA C N w v x) (hone : (cellsOf x).all oneA = true) (t : TypeId) :
  ∃ N',SimN C X N' tm (setH hp r (.box (cellsOf x))) a (w.alloc (.cells v.cells t)) ∧ RepA C N' (w.alloc (.cells v.cells t)) (.pointer (some ⟨w.heap.size,0,none⟩)) (.ptr r 0):=by
 obtain ⟨hvs,hv1,hvr⟩:=hv.cells hone h.hr.one
 have ho:=h.hr.obj r
 rw [hg] at ho
 have hs:=Step.box (r:=r) (b:=w.heap.size) (cs:=cellsOf x) hC h.hr (w':=w.alloc (.cells v.cells t)) (fun b hb _=>Qn4u w _ hb) (by rw [Q541]; omega) (Qdnr w _) hvs (fun u hu=>hv1 u (by simpa using hu))
  (fun hL j u c hu hc=>(hvr j u c (by simpa using hu) hc).mono hL) (fun p v' u hg'=>by have:=h.hr.reg r p v' u hg'; rw [hg] at this; exact this.elim) (.inr ⟨ho,Nat.le_refl _⟩) rfl rfl rfl
 refine ⟨_,h.step hC hs (fun k hk hkm _=>absurd (by subst hk; exact hg) (h.nog k hkm)),.ptr r _ 0 (.inr ⟨rfl,rfl,rfl,rfl⟩)⟩

theorem Qsdy (hC : CodOK P C) {X : Cx} {N : Nm} {tm : Nat → AV Ty El} {hp : Nat → AObj Ty El} {a : Act} {w : World} {r : Nat} (h : SimN C X N tm hp a w) (hg : hp r = .gone) (T : Ty) (d : Nat) :
  ∃ N',SimN C X N' tm (setH hp r (.row T [] d 0 0 .no)) a w ∧ RepA C N' w (.slice none 0 0) (.own r [] 0):=by
 have hs:=Step.row (r:=r) (T:=T) (xs:=[]) (d:=d) (vr:=0) (vn:=0) (m:=.no) (ν:=.slice none 0 0) (F:=fun _=>False) (ro:=fun _=>False) hC h.hr (fun _ _ _=>rfl) (Nat.le_refl _) rfl (fun _=>Deep.nil hC d _ T)
  (fun p v' u hg'=>by have:=h.hr.reg r p v' u hg'; rw [hg] at this; exact this.elim) (fun b hb=>hb.elim) (fun b hb=>hb.elim) (fun b hb=>hb.elim) rfl rfl rfl
 refine ⟨_,h.step hC hs (fun k hk hkm _=>absurd (by subst hk; exact hg) (h.nog k hkm)),.own r [] 0 _ (.inr ⟨rfl,.inl ⟨rfl,rfl,rfl⟩⟩)⟩

theorem Qmo0 {s : TypeId} {f : Nat} {ft : TypeId} {off : Nat} (h : Q9oq P s f = some (ft,off)) :
  ∃ fs fd i d,P.underlying s = some (.struct fs) ∧ fs[f]? = some fd ∧ fd.type = ft ∧ fd.offset = off ∧ P.info? ft = some i ∧ P.underlying ft = some d ∧ i.size ≠ 0:=by
 unfold Q9oq at h
 split at h
 ·rename_i fs hfs
  split at h
  ·rename_i fd hfd
   split at h
   ·cases h
   ·rename_i gn hne hs
    simp only [Option.some.injEq,Prod.mk.injEq] at h
    obtain ⟨rfl,rfl⟩:=h
    obtain ⟨g,n⟩:=gn
    obtain ⟨d,i,hd,hi,_,hn⟩:=Qckr hs
    refine ⟨fs,fd,i,d,hfs,by simpa using hfd,rfl,rfl,hi,hd,fun e=>?_⟩
    subst hn
    exact hne g (by rw [e])
   ·cases h
  ·cases h
 ·cases h

theorem Qbs7 {s : TypeId} {f : Nat} {ft : TypeId} {off : Nat} (h : Q9oq P s f = some (ft,off)) (w : World) (b o : Nat) :
  (Instr.fieldAt s (.pointer (some ⟨b,o,none⟩)) f).run P w = .ok (.pointer (some ⟨b,o + off,none⟩)) w:=by
 obtain ⟨fs,fd,i,d,hfs,hfd,rfl,rfl,hi,_,hne⟩:=Qmo0 h
 unfold Instr.fieldAt
 simp only [Sem.run_bind,run_underlying hfs,Result.andThen_ok,hfd,Instr.sureAddr,Sem.run_pure,fieldPlace,Qvtr hi,if_neg hne,Qimv]

theorem RepA.offset {N : Nm} {w : World} {v : Value} {x : AV Ty El} (h : RepA C N w v x) (k : Nat) :
  (∀ r o,x = .ptr r o → ∃ b p,v = .pointer (some ⟨b,p,none⟩) ∧ RepA C N w (.pointer (some ⟨b,p + k,none⟩)) (.ptr r (o + k))) ∧
  (∀ r q ver wd i j,x = .eptr r q ver wd i j → ∃ b p,v = .pointer (some ⟨b,p,none⟩) ∧ RepA C N w (.pointer (some ⟨b,p + k,none⟩)) (.eptr r q ver wd i (j + k))) ∧
  (∀ cs o,x = .rop cs o → ∃ b p,v = .pointer (some ⟨b,p,none⟩) ∧ RepA C N w (.pointer (some ⟨b,p + k,none⟩)) (.rop cs (o + k))):=by
 refine ⟨fun r o e=>?_,fun r q ver wd i j e=>?_,fun cs o e=>?_⟩
 ·subst e
  cases h with | ptr r b off hG=>exact ⟨b,o,rfl,.ptr r b _ hG⟩
 ·subst e
  cases h with | eptr r q ver wd i j b n cap hG hi=>exact ⟨b,_,rfl,by rw [Nat.add_assoc]; exact .eptr r q ver wd i (j + k) b n cap hG hi⟩
 ·subst e
  cases h with | rop cs b o' off f hro hc hr=>exact ⟨b,_,rfl,by rw [Nat.add_assoc]; exact .rop cs b o' (o + k) f hro hc hr⟩

theorem Q08z {N : Nm} {w : World} {vs : Array Value} {cs : List (AV Ty El)} {t : TypeId} {off : Nat} {x : AV Ty El} (hl : vs.size = cs.length)
  (hc : ∀ (j : Nat) u c,vs[j]? = some u → cs[j]? = some c → RepA C N w u c) (h : partA P t cs off = some x) : ∃ u,(part t vs off).run P w = .ok u w ∧ RepA C N w u x:=by
 unfold partA at h
 split at h
 ·rename_i n hs
  obtain ⟨d,i,hd,hi,hg,hn⟩:=Qckr hs
  split at h
  ·rename_i hle
   simp only [Option.some.injEq] at h
   subst h
   refine ⟨.agg (vs.extract off (off + n)), ?_,.agg _ _ (by simp; omega) fun j u c hu hcc=>?_⟩
   ·unfold part
    simp only [Sem.run_bind,Q5n1 hd,hg,Result.andThen_ok,if_true,Qvtr hi,hn,Sem.run_pure]
   ·have hj : j < n:=by
     rcases Nat.lt_or_ge j n with h1 | h1
     ·exact h1
     ·rw [List.getElem?_eq_none (by simp; omega)] at hcc; cases hcc
    rw [List.getElem?_take_of_lt hj,List.getElem?_drop] at hcc
    have hlt : off + j < vs.size:=by omega
    rw [Array.getElem?_extract] at hu
    split at hu
    ·exact hc (off + j) u c hu hcc
    ·cases hu
  ·cases h
 ·rename_i n hs
  obtain ⟨d,i,hd,hi,hg,hn⟩:=Qckr hs
  have hlt : off < vs.size:=by rw [hl]; exact (List.getElem?_eq_some_iff.1 h).1
  refine ⟨vs[off], ?_,hc off _ x (by simp [hlt]) h⟩
  unfold part
  simp [Sem.run_bind,Q5n1 hd,hg,hlt]
 ·cases h

theorem RepA.inv_tup {N : Nm} {w : World} {v : Value} {cs : List (AV Ty El)} (h : RepA C N w v (.tup cs)) :
  ∃ vs : Array Value,v = .tuple vs ∧ vs.size = cs.length ∧ ∀ (j : Nat) u c,vs[j]? = some u → cs[j]? = some c → RepA C N w u c:=by
 cases h with | tup vs cs hl h=>exact ⟨vs,rfl,hl,h⟩
end
end Lx
namespace Lx
open Go
section
variable {Ty : Type} {El : Ty → Type} {C : Cod Ty El} {P : Program}

def SlR (C : Cod Ty El) (N : Nm) (w : World) (v : Value) (T : Ty) (xs : List (El T)) : Prop :=
 ∃ a cap,v = .slice a xs.length cap ∧ xs.length ≤ cap ∧ (0 < xs.length → ∃ b o,a = some ⟨b,o,none⟩ ∧
  ∀ i j c,i < xs.length → (C.row T (xs.getD i (C.dflt T)))[j]? = some c → ∃ u,w.cell? ⟨b,o + (i * C.sz T + j),none⟩ = some u ∧ RepA C N w u c)

theorem SlR.of_sl {N : Nm} {w : World} (hC : CodOK P C) {v : Value} {T : Ty} {xs : List (El T)} (h : RepA C N w v (.sl T xs)) : SlR C N w v T xs:=by
 cases h with
 | sl0 T a cap=>exact ⟨a,cap,rfl,Nat.zero_le _,fun h=>absurd h (Nat.lt_irrefl 0)⟩
 | sl T xs b o n cap f hn hc hro hcell hrep =>
  subst hn
  refine ⟨some ⟨b,o,none⟩,cap,rfl,hc,fun _=>⟨b,o,rfl,fun i j c hi hj=>⟨f i j,hcell i j hi ?_,hrep i j c hi hj⟩⟩⟩
  rw [← hC.len T (xs.getD i (C.dflt T))]
  exact (List.getElem?_eq_some_iff.1 hj).1

theorem SlR.cut {N : Nm} {w : World} {b o n cap lo m : Nat} {T : Ty} {xs : List (El T)} (h : SlR C N w (.slice (some ⟨b,o,none⟩) n cap) T xs) (hb : lo + m ≤ n) {v : Value} {A : Option Addr} {k : Nat} (hv : v = .slice A m k) (hk : m ≤ k)
  (hA : 0 < m → A = some ⟨b,o + lo * C.sz T,none⟩) : SlR C N w v T ((xs.drop lo).take m):=by
 obtain ⟨a',cap',he,hle,hc⟩:=h
 simp only [Value.slice.injEq] at he
 obtain ⟨rfl,rfl,rfl⟩:=he
 have hlen : ((xs.drop lo).take m).length = m:=by simp; omega
 refine ⟨A,k,by rw [hlen]; exact hv,by omega,fun hp=>?_⟩
 rw [hlen] at hp
 obtain ⟨b',o',he,hcc⟩:=hc (by omega)
 simp only [Option.some.injEq,Addr.mk.injEq,and_true] at he
 obtain ⟨rfl,rfl⟩:=he
 refine ⟨b,o + lo * C.sz T,hA hp,fun i j c hi hj=>?_⟩
 rw [hlen] at hi
 have e : ((xs.drop lo).take m).getD i (C.dflt T) = xs.getD (lo + i) (C.dflt T):=by
  simp [List.getD,List.getElem?_take_of_lt hi]
 rw [e] at hj
 obtain ⟨u,hu,hr⟩:=hcc (lo + i) j c (by omega) hj
 refine ⟨u, ?_,hr⟩
 rw [← hu]
 congr 2
 rw [Nat.add_mul]; omega

theorem RepA.of_SlR {N : Nm} {w : World} {v : Value} {T : Ty} {xs : List (El T)} (hC : CodOK P C) (h : SlR C N w v T xs) (hro : ∀ b o n cap,v = .slice (some ⟨b,o,none⟩) n cap → 0 < n → N.ro b) : RepA C N w v (.sl T xs):=by
 obtain ⟨a,cap,rfl,hle,hc⟩:=h
 rcases Nat.eq_zero_or_pos xs.length with h0 | h0
 ·have : xs = []:=List.eq_nil_of_length_eq_zero h0
  subst this
  exact .sl0 T a cap
 ·obtain ⟨b,o,rfl,hcc⟩:=hc h0
  have key : ∀ i j,i < xs.length → j < C.sz T → ∃ u,w.cell? ⟨b,o + (i * C.sz T + j),none⟩ = some u ∧ ∀ c,(C.row T (xs.getD i (C.dflt T)))[j]? = some c → RepA C N w u c:=by
   intro i j hi hj
   have hj' : j < (C.row T (xs.getD i (C.dflt T))).length:=by rw [hC.len]; exact hj
   obtain ⟨u,hu,hr⟩:=hcc i j _ hi (List.getElem?_eq_getElem hj')
   exact ⟨u,hu,fun c hc'=>by rw [List.getElem?_eq_getElem hj'] at hc'; simp only [Option.some.injEq] at hc'; subst hc'; exact hr⟩
  refine .sl T xs b o _ cap (fun i j=>(w.cell? ⟨b,o + (i * C.sz T + j),none⟩).getD undef) rfl hle (hro b o _ cap rfl h0) (fun i j hi hj=>?_) (fun i j c hi hj=>?_)
  ·obtain ⟨u,hu,_⟩:=key i j hi hj
   rw [hu]; rfl
  ·have hj' : j < C.sz T:=by rw [← hC.len T (xs.getD i (C.dflt T))]; exact (List.getElem?_eq_some_iff.1 hj).1
   obtain ⟨u,hu,hr⟩:=key i j hi hj'
   rw [hu]; exact hr c hj

theorem Qiyc {t : TypeId} {T : Ty} (h : Qucw P C t T = true) : ∃ e,P.underlying t = some (.slice e) ∧ C.ty e = some T:=by
 unfold Qucw elTy Qtpu at h
 split at h
 ·rename_i S hS
  split at hS
  ·rename_i e he
   split at he
   ·rename_i e' hu
    simp only [Option.some.injEq] at he
    subst he
    split at h
    ·rename_i hST _
     subst hST
     exact ⟨e',hu,hS⟩
    ·cases h
   ·cases he
  ·cases hS
 ·cases h
theorem Q0di {e : TypeId} {T : Ty} (hC : CodOK P C) (h : C.ty e = some T) (w : World) : (Go.sizeOf e).run P w = .ok (C.sz T) w:=by
 obtain ⟨i,z,hi,hs,_⟩:=hC.info e T h
 rw [Qvtr hi,hs]
theorem Q4qe {t : TypeId} (h : isSl P t = true) : ∃ e,P.underlying t = some (.slice e):=by
 unfold isSl at h; split at h
 ·rename_i e he; exact ⟨e,he⟩
 ·cases h
theorem Qybp {t : TypeId} (h : isStr P t = true) : P.underlying t = some .string:=by
 unfold isStr at h; split at h
 ·assumption
 ·cases h


theorem SlR.nil {N : Nm} {w : World} (A : Option Addr) (k : Nat) (T : Ty) : SlR C N w (.slice A 0 k) T []:=⟨A,k,rfl,Nat.zero_le _,fun h=>absurd h (Nat.lt_irrefl 0)⟩

theorem SlR.of_deep (hC : CodOK P C) {N : Nm} {w : World} {d : Nat} {B : Nat → Prop} {v : Value} {T : Ty} {xs : List (El T)} (h : Deep C N w d mskNo B v T xs) (hd : d = 0 ∨ C.hgt T = 0) : SlR C N w v T xs:=by
 have h0 : Deep C N w 0 mskNo B v T xs:=by
  rcases hd with rfl | hd
  ·exact h
  ·exact Deep.hgt hC _ _ _ _ _ _ _ (by omega) (by omega) (fun _ h=>h) h
 obtain ⟨e,cells,Fs,hri⟩:=h0
 obtain ⟨a,cap,hv,hle,_,hat⟩:=hri.at
 refine ⟨a,cap,hv,hle,fun hp=>?_⟩
 cases a with
 | none=>obtain ⟨a',cap',hv',_,hz,_⟩:=hri.at; rw [hv] at hv'; simp only [Value.slice.injEq] at hv'; have:=(hz hv'.1.symm).1; omega
 | some ad =>
  obtain ⟨b,rfl,_,hcell⟩:=hat ad rfl
  refine ⟨b,0,rfl,fun i j c hi hj=>?_⟩
  obtain ⟨u,hu,hk,_⟩:=hri.cellAt hC hv hi hj
  exact ⟨u,by rw [Nat.zero_add]; exact hu,hk.1⟩

theorem Qtys (hC : CodOK P C) {N : Nm} {hp : Nat → AObj Ty El} {w : World} (hH : HR C N hp w) {r : Nat} {p : Path} {v : Nat} {R : Row Ty El} (h : rowAt C hp r p v = some R) {u : Value} (hu : N.G r p v u) :
  ∃ a cap,u = .slice a R.xs.length cap ∧ R.xs.length ≤ cap ∧ (a = none → R.xs.length = 0 ∧ cap = 0) ∧ ∀ ad,a = some ad → ∃ b,ad = ⟨b,0,none⟩ ∧ N.F r b:=by
 obtain ⟨T,xs,d,vr,_,_,_,_,_,_,_,B',hB,hd⟩:=Q2c6 hC hH h hu
 obtain ⟨a,cap,h1,h2,h3,h4⟩:=hd.head
 exact ⟨a,cap,h1,h2,h3,fun ad had=>by obtain ⟨b,hb,hb2⟩:=h4 ad had; exact ⟨b,hb,hB b hb2⟩⟩

theorem Qcfu (hC : CodOK P C) {N : Nm} {hp : Nat → AObj Ty El} {w : World} (hH : HR C N hp w) {r : Nat} {p : Path} {v : Nat} {R : (T : Ty) × List (El T)} (h : Qum2 C hp r p v = some R) {u : Value} (hu : N.G r p v u) :
  ∃ a cap,u = .slice a R.2.length cap ∧ R.2.length ≤ cap ∧ (a = none → R.2.length = 0 ∧ cap = 0) ∧ ∀ ad,a = some ad → ∃ b,ad = ⟨b,0,none⟩ ∧ N.F r b:=by
 cases p with
 | nil =>
  simp only [Qum2] at h
  split at h
  ·rename_i T xs d vr vn m hr
   split at h
   ·rename_i hv
    simp only [Option.some.injEq] at h
    subst h
    have hreg:=hH.reg r [] v u hu
    have hobj:=hH.obj r
    rw [hr] at hreg hobj
    have hu':=hreg.2 hv
    have hd : Deep C N w d (mskP m) (N.F r) (N.ν r) T xs:=hobj.2
    rw [← hu'] at hd
    exact hd.head
   ·cases h
  ·cases h
 | cons q p =>
  simp only [Qum2] at h
  split at h
  ·rename_i R' hR
   simp only [Option.some.injEq] at h
   subst h
   exact Qtys hC hH hR hu
  ·cases h

theorem Qnx4 (hC : CodOK P C) {N : Nm} {w : World} {T : Ty} {xs : List (El T)} {lo m n cap : Nat} {a : Option Addr} (hs : SlR C N w (.slice a n cap) T xs) (hb : lo + m ≤ n) :
  SlR C N w (.slice (if cap = lo then a else a.map (·.add (lo * C.sz T))) m (cap - lo)) T ((xs.drop lo).take m):=by
 have hn : n ≤ cap:=by
  obtain ⟨a',cap',he,hle,_⟩:=hs
  simp only [Value.slice.injEq] at he; omega
 cases ha : a with
 | none =>
  rw [ha] at hs
  obtain ⟨a',cap',he,hle,hcc⟩:=hs
  simp only [Value.slice.injEq] at he
  obtain ⟨rfl,rfl,rfl⟩:=he
  have hz : xs.length = 0:=by
   rcases Nat.eq_zero_or_pos xs.length with h0 | h0
   ·exact h0
   ·obtain ⟨b,o,hh,_⟩:=hcc h0; cases hh
  have hm : m = 0:=by omega
  subst hm
  refine ⟨_,cap - lo,by simp; rfl,by simp,fun hp=>by simp at hp⟩
 | some ad =>
  rw [ha] at hs
  rcases Nat.eq_zero_or_pos m with h0 | h0
  ·subst h0
   exact ⟨_,cap - lo,by simp; rfl,by simp,fun hp=>by simp at hp⟩
  ·have hs':=hs
   obtain ⟨a',cap',he,hle,hcc⟩:=hs
   simp only [Value.slice.injEq] at he
   obtain ⟨rfl,rfl,rfl⟩:=he
   obtain ⟨b,o,he,_⟩:=hcc (by omega)
   simp only [Option.some.injEq] at he
   subst he
   refine SlR.cut hs' hb rfl (by omega) fun _=>?_
   rw [if_neg (by omega)]
   simp [Qimv]

theorem Qpv0 {N : Nm} {hp : Nat → AObj Ty El} {w : World} (hC : CodOK P C) (h : HR C N hp w) {v : Value} {x : AV Ty El} {T : Ty} {xs : List (El T)} {rd : List Nat} (hv : RepA C N w v x)
  (hr : readA C hp x = some (⟨T,xs⟩,rd)) (hflat : C.hgt T = 0 ∨ (∀ r p ver,(x = .own r p ver ∨ ∃ wd lo n,x = .view r p ver wd lo n) → ∀ R,rowAt C hp r p ver = some R → R.d = 0)) : SlR C N w v T xs:=by
 unfold readA at hr
 split at hr
 ·simp only [Option.some.injEq,Prod.mk.injEq,Sigma.mk.injEq] at hr
  obtain ⟨⟨rfl,hx⟩,_⟩:=hr
  have hx:=eq_of_heq hx
  subst hx
  exact .of_sl hC hv
 ·rename_i r p ver
  split at hr
  ·rename_i R hR
   simp only [Option.some.injEq,Prod.mk.injEq,Sigma.mk.injEq] at hr
   obtain ⟨⟨rfl,hx⟩,_⟩:=hr
   have hx:=eq_of_heq hx
   subst hx
   cases hv with
   | own _ _ _ _ hG =>
    obtain ⟨_,_,_,_,_,_,_,_,_,_,_,B',_,hd⟩:=Q2c6 hC h hR hG
    exact SlR.of_deep hC hd (hflat.elim .inr (fun hf=>.inl (hf r p ver (.inl rfl) R hR)))
  ·cases hr
 ·rename_i r p ver wd lo m
  split at hr
  ·rename_i R hR
   split at hr
   ·rename_i hwd
    simp only [Option.some.injEq,Prod.mk.injEq,Sigma.mk.injEq] at hr
    obtain ⟨⟨rfl,hx⟩,_⟩:=hr
    have hx:=eq_of_heq hx
    subst hx
    cases hv with
    | view _ _ _ _ lo m n cap a hG hb =>
     obtain ⟨_,_,_,_,_,_,_,_,_,_,_,B',_,hd⟩:=Q2c6 hC h hR hG
     have hwd : wd = C.sz R.T:=hwd
     subst hwd
     exact Qnx4 hC (SlR.of_deep hC hd (hflat.elim .inr (fun hf=>.inl (hf r p ver (.inr ⟨_,_,_,rfl⟩) R hR)))) hb
   ·cases hr
  ·cases hr
 ·cases hr

theorem Qpoo {N : Nm} {hp : Nat → AObj Ty El} {w : World} (hC : CodOK P C) (h : HR C N hp w) {v : Value} {x : AV Ty El} {n : Int} {rd : List Nat} (hv : RepA C N w v x) (hl : lenA C hp x = some (n,rd)) (hx : ∀ l,x ≠ .str l) :
  ∃ a m cap,v = .slice a m cap ∧ n = (m : Int):=by
 unfold lenA at hl
 split at hl
 ·rename_i T xs
  simp only [Option.some.injEq,Prod.mk.injEq] at hl
  obtain ⟨rfl,_⟩:=hl
  obtain ⟨a,cap,rfl,_⟩:=SlR.of_sl (P:=P) hC hv
  exact ⟨a,_,cap,rfl,rfl⟩
 ·simp only [Option.some.injEq,Prod.mk.injEq] at hl
  obtain ⟨rfl,_⟩:=hl
  cases hv; exact ⟨none,0,0,rfl,rfl⟩
 ·rename_i s; exact absurd rfl (hx s)
 ·rename_i r p ver
  split at hl
  ·rename_i R hR
   simp only [Option.some.injEq,Prod.mk.injEq] at hl
   obtain ⟨rfl,_⟩:=hl
   cases hv with
   | own _ _ _ _ hG =>
    obtain ⟨a,cap,he,_⟩:=Qtys hC h hR hG
    exact ⟨a,_,cap,he,rfl⟩
  ·cases hl
 ·rename_i r p ver wd lo m
  split at hl
  ·simp only [Option.some.injEq,Prod.mk.injEq] at hl
   obtain ⟨rfl,_⟩:=hl
   cases hv with | view _ _ _ _ lo m n cap a hG hb=>exact ⟨_,m,_,rfl,rfl⟩
  ·cases hl
 ·cases hl

theorem Qb76 (k : IntKind) (n : Int) : (asIntOf (.int k n) : Sem _) = pure (k,n):=rfl

theorem Qfie {X : Cx} {N : Nm} {tm : Nat → AV Ty El} {hp : Nat → AObj Ty El} {a : Act} {w : World} (hS : SimN C X N tm hp a w) (hout : ∀ t,X.n ≤ t → tm t = .dead) {len cap : Nat} (hle : len ≤ cap) {lo hi : Option Operand} {l h : Int}
  (hl : Q8tx tm 0 lo = some l) (hh : Q8tx tm (len : Int) hi = some h) (h0 : 0 ≤ l) (h1 : l ≤ h) (h2 : h ≤ (len : Int)) (isS : Bool) :
  (Instr.sliceBounds isS len cap (lo.map a.eval) (hi.map a.eval) none).run P w = .ok (l.toNat,h.toNat,cap) w:=by
 have sb : ∀ (k : IntKind) (i : Int) (y : Nat) (code : BoundsCode),0 ≤ i → i ≤ (y : Int) → (Instr.sliceBound (.int k i) y code).run P w = .ok i.toNat w:=by
  intro k i y code h3 h4
  unfold Instr.sliceBound
  simp only [Qb76,Sem.run_bind,Sem.run_pure,Result.andThen_ok]
  rw [if_pos ⟨h3,h4⟩]
  rfl
 have hhi : ∀ x,hi = some x → ∃ k,a.eval x = .int k h:=by
  rintro x rfl
  obtain ⟨k,e⟩:=Qa10 hh
  have:=hS.evalO hout x
  rw [e] at this
  exact ⟨k,this.inv_int⟩
 have hlo : ∀ x,lo = some x → ∃ k,a.eval x = .int k l:=by
  rintro x rfl
  obtain ⟨k,e⟩:=Qa10 hl
  have:=hS.evalO hout x
  rw [e] at this
  exact ⟨k,this.inv_int⟩
 have hn : hi = none → h.toNat = len:=by rintro rfl; simp only [Q8tx,Option.some.injEq] at hh; omega
 have ln : lo = none → l.toNat = 0:=by rintro rfl; simp only [Q8tx,Option.some.injEq] at hl; omega
 unfold Instr.sliceBounds
 cases hi with
 | none =>
  rw [hn rfl] at *
  have hl' : l ≤ (len : Int):=by omega
  cases lo with
  | none=>rw [ln rfl]; simp
  | some y =>
   obtain ⟨k,e⟩:=hlo y rfl
   simp [e,sb k l len .sliceB h0 hl']
 | some x =>
  obtain ⟨k,e⟩:=hhi x rfl
  have hcap : h ≤ (cap : Int):=by omega
  have hlh : l ≤ (h.toNat : Int):=by omega
  cases lo with
  | none=>rw [ln rfl]; simp [e,sb k h cap _ (by omega) hcap]
  | some y =>
   obtain ⟨k',e'⟩:=hlo y rfl
   simp [e,e',sb k h cap _ (by omega) hcap,sb k' l h.toNat .sliceB h0 hlh]

theorem RepA.sl_ro {N : Nm} {w : World} {v : Value} {T : Ty} {xs : List (El T)} (h : RepA C N w v (.sl T xs)) {b o n cap : Nat} (hv : v = .slice (some ⟨b,o,none⟩) n cap) (hn : 0 < n) : N.ro b:=by
 cases h with
 | sl0 T A k=>simp only [Value.slice.injEq] at hv; omega
 | sl T xs b' o' n' cap f hn' hc' hro _ _ =>
  simp only [Value.slice.injEq,Option.some.injEq,Addr.mk.injEq] at hv
  rw [← hv.1.1]; exact hro

theorem Q6hd (hC : CodOK P C) {t e : TypeId} {T : Ty} (ht : P.underlying t = some (.slice e)) (he : C.ty e = some T) {w : World} {A : Option Addr} {len cap : Nat} {lo hi : Option Value} {l h : Nat}
  (hb : (Instr.sliceBounds true len cap lo hi none).run P w = .ok (l,h,cap) w) :
  (Instr.sliceAt t (.slice A len cap) lo hi none).run P w = .ok (.slice (if cap = l then A else A.map (·.add (l * C.sz T))) (h - l) (cap - l)) w:=by
 unfold Instr.sliceAt
 simp only [Sem.run_bind,run_underlying ht,Result.andThen_ok]
 unfold Instr.slice
 simp only [Sem.run_bind,run_underlying ht,Result.andThen_ok,hb,Q0di hC he,Sem.run_pure]

theorem Qdcg {X : Cx} {N : Nm} {tm : Nat → AV Ty El} {hp : Nat → AObj Ty El} {a : Act} {w : World} (hC : CodOK P C) (hS : SimN C X N tm hp a w) (hout : ∀ t,X.n ≤ t → tm t = .dead) {t : TypeId} {x : Operand} {lo hi : Option Operand} {r : OpRes Ty El}
  (h : Qkrz P C tm hp t (evalO tm x) lo hi = some r) (hg : r.g = true) :
  ∃ u,(Instr.sliceAt t (a.eval x) (lo.map a.eval) (hi.map a.eval) none).run P w = .ok u w ∧ RepA C N w u r.v ∧ r.wr = []:=by
 have hv:=hS.evalO hout x
 revert hv h
 generalize evalO tm x = y
 generalize a.eval x = v
 intro h hv
 unfold Qkrz at h
 split at h
 ·rename_i s
  split at h
  ·rename_i l hh hl hhh
   split at h
   ·rename_i ht
    simp only [Option.some.injEq] at h
    subst h
    simp only [Bool.and_eq_true,decide_eq_true_eq] at hg
    obtain ⟨h0,h1,h2⟩:=hg
    obtain ⟨bs,rfl,hbs⟩:=hv.inv_str
    have hlen : bs.size = s.length:=by rw [← hbs,Array.length_toList]; rfl
    have hb:=Qfie (P:=P) hS hout (len:=bs.size) (cap:=bs.size) (Nat.le_refl _) hl (by rw [hlen]; exact hhh) h0 h1 (by rw [hlen]; exact h2) false
    refine ⟨.string (bs.extract l.toNat hh.toNat), ?_,.str _ _ (by rw [Lib.extract_data,hbs]),rfl⟩
    unfold Instr.sliceAt
    simp only [Sem.run_bind,run_underlying (Qybp ht),Result.andThen_ok]
    unfold Instr.slice
    simp only [Sem.run_bind,run_underlying (Qybp ht),Result.andThen_ok,hb,Sem.run_pure,Option.isSome_none,Bool.false_eq_true,if_false]
   ·cases h
  ·cases h
 ·rename_i T xs
  split at h
  ·rename_i l hh hl hhh
   split at h
   ·rename_i ht
    obtain ⟨e,hte,hce⟩:=Qiyc ht
    simp only [Option.some.injEq] at h
    subst h
    simp only [Bool.and_eq_true,decide_eq_true_eq] at hg
    obtain ⟨h0,h1,h2⟩:=hg
    have hs:=SlR.of_sl (P:=P) hC hv
    have hs':=hs
    obtain ⟨A,cap,rfl,hle,hcc⟩:=hs
    have hb:=Qfie (P:=P) hS hout hle hl hhh h0 h1 h2 true
    refine ⟨_,Q6hd hC hte hce hb, ?_,rfl⟩
    refine RepA.of_SlR hC ?_ ?_
    ·cases A with
     | none =>
      have hz : xs.length = 0:=by
       rcases Nat.eq_zero_or_pos xs.length with h3 | h3
       ·exact h3
       ·obtain ⟨b,o,hh',_⟩:=hcc h3; cases hh'
      have hxs : xs = []:=List.eq_nil_of_length_eq_zero hz
      subst hxs
      simp at h2 h1
      have : hh = 0:=by omega
      subst this
      have : l = 0:=by omega
      subst this
      exact SlR.nil _ _ _
     | some ad =>
      rcases Nat.eq_zero_or_pos (hh.toNat - l.toNat) with h3 | h3
      ·rw [h3,List.take_zero]; exact SlR.nil _ _ _
      ·obtain ⟨b,o,he,_⟩:=hcc (by omega)
       simp only [Option.some.injEq] at he
       subst he
       refine SlR.cut hs' (by omega) rfl (by omega) fun _=>?_
       rw [if_neg (by omega)]
       simp [Qimv]
    ·intro b o n cap' he hn
     simp only [Value.slice.injEq] at he
     obtain ⟨he,rfl,_⟩:=he
     rw [if_neg (by omega)] at he
     cases A with
     | none=>cases he
     | some ad =>
      obtain ⟨b',o',e',_⟩:=hcc (by omega)
      simp only [Option.some.injEq] at e'
      subst e'
      simp only [Option.map_some,Qimv,Option.some.injEq,Addr.mk.injEq,and_true] at he
      rw [← he.1]
      exact hv.sl_ro rfl (by omega)
   ·cases h
  ·cases h
 ·rename_i r0 p0 ver
  split at h
  ·rename_i R hR
   split at h
   ·rename_i l hh hl hhh
    split at h
    ·rename_i ht
     obtain ⟨e,hte,hce⟩:=Qiyc ht
     simp only [Option.some.injEq] at h
     subst h
     simp only [Bool.and_eq_true,decide_eq_true_eq] at hg
     obtain ⟨h0,h1,h2⟩:=hg
     cases hv with
     | own _ _ _ _ hG =>
      obtain ⟨A,cap,he,hle,_,_⟩:=Qtys hC hS.hr hR hG
      rw [he] at hG ⊢
      have hb:=Qfie (P:=P) hS hout hle hl hhh h0 h1 h2 true
      exact ⟨_,Q6hd hC hte hce hb,.view r0 p0 ver _ l.toNat (hh.toNat - l.toNat) R.xs.length cap A hG (by omega),rfl⟩
    ·cases h
   ·cases h
  ·cases h
 ·cases h

theorem Q3i8 {i : Int} {n : Nat} (h : inb i n = true) : 0 ≤ i ∧ i < (n : Int):=by simpa [inb] using h

theorem Qd68 (hC : CodOK P C) {t e : TypeId} {T : Ty} (ht : P.underlying t = some (.slice e)) (he : C.ty e = some T) {w : World} {b o n cap : Nat} {k : IntKind} {i : Int} (h0 : 0 ≤ i) (h1 : i < (n : Int)) :
  (Instr.indexAt t (.slice (some ⟨b,o,none⟩) n cap) (.int k i)).run P w = .ok (.pointer (some ⟨b,o + i.toNat * C.sz T,none⟩)) w:=by
 unfold Instr.indexAt
 simp [Sem.run_bind,Qb76,run_underlying ht,Q0di hC he,h0,h1,Qimv]

theorem Qbla {N : Nm} {hp : Nat → AObj Ty El} {w : World} (hC : CodOK P C) (hH : HR C N hp w) {t : TypeId} {v : Value} {x : AV Ty El} {k : IntKind} {i : Int} {r : OpRes Ty El} (hv : RepA C N w v x)
  (h : Qqui P C hp t x i = some r) (hg : r.g = true) : ∃ u,(Instr.indexAt t v (.int k i)).run P w = .ok u w ∧ RepA C N w u r.v ∧ r.wr = []:=by
 unfold Qqui at h
 split at h
 ·rename_i T xs
  split at h
  ·rename_i ht
   obtain ⟨e,hte,hce⟩:=Qiyc ht
   simp only [Option.some.injEq] at h
   subst h
   obtain ⟨h0,h1⟩:=Q3i8 hg
   cases hv with
   | sl0 T A cap=>simp at h1; omega
   | sl T xs b o n cap f hn hc hro hcell hrep =>
    subst hn
    refine ⟨_,Qd68 hC hte hce h0 h1, ?_,rfl⟩
    have:=RepA.rop (C:=C) (N:=N) (w:=w) (C.row T (xs.getD i.toNat (C.dflt T))) b (o + i.toNat * C.sz T) 0 (fun j=>f i.toNat j) hro
     (fun j hj=>by rw [Nat.add_assoc]; exact hcell i.toNat j (by omega) (by rw [hC.len] at hj; exact hj))
     (fun j c hj=>hrep i.toNat j c (by omega) hj)
    simpa using this
  ·cases h
 ·rename_i r0 p0 ver
  split at h
  ·rename_i R hR
   split at h
   ·rename_i ht
    obtain ⟨e,hte,hce⟩:=Qiyc ht
    simp only [Option.some.injEq] at h
    subst h
    obtain ⟨h0,h1⟩:=Q3i8 hg
    cases hv with
    | own _ _ _ _ hG =>
     obtain ⟨A,cap,he,hle,hz,hat⟩:=Qcfu hC hH hR hG
     rw [he] at hG ⊢
     cases A with
     | none=>have:=(hz rfl).1; omega
     | some ad =>
      obtain ⟨b,rfl,_⟩:=hat ad rfl
      refine ⟨_,Qd68 hC hte hce h0 h1, ?_,rfl⟩
      have:=RepA.eptr (C:=C) (N:=N) (w:=w) r0 p0 ver (C.sz R.1) i.toNat 0 b R.2.length cap hG (by omega)
      rw [Nat.add_zero] at this
      rw [Nat.zero_add]
      exact this
   ·cases h
  ·cases h
 ·rename_i r0 p0 ver wd lo n
  split at h
  ·rename_i R hR
   split at h
   ·rename_i ht
    obtain ⟨ht,hwd⟩:=ht
    have hwd : wd = C.sz R.T:=hwd
    subst hwd
    obtain ⟨e,hte,hce⟩:=Qiyc ht
    simp only [Option.some.injEq] at h
    subst h
    obtain ⟨h0,h1⟩:=Q3i8 hg
    cases hv with
    | view _ _ _ _ lo m nn cap A hG hb =>
     obtain ⟨A',cap',he,hle,hz,hat⟩:=Qtys hC hH hR hG
     simp only [Value.slice.injEq] at he
     obtain ⟨rfl,rfl,rfl⟩:=he
     cases A with
     | none=>have:=(hz rfl).1; omega
     | some ad =>
      obtain ⟨b,rfl,_⟩:=hat ad rfl
      have hne : ¬ cap = lo:=by omega
      rw [if_neg hne]
      simp only [Option.map_some,Qimv,Nat.zero_add]
      refine ⟨_,Qd68 hC hte hce h0 h1, ?_,trivial⟩
      have:=RepA.eptr (C:=C) (N:=N) (w:=w) r0 p0 ver (C.sz R.T) (lo + i.toNat) 0 b R.xs.length cap hG (by omega)
      rw [Nat.add_zero,Nat.add_mul] at this
      exact this
   ·cases h
  ·cases h
 ·rename_i r0 off
  split at h
  ·rename_i n e ht
   split at h
   ·rename_i gg sz hs
    obtain ⟨d,ti,hd,hi,_,hn⟩:=Qckr hs
    simp only [Option.some.injEq] at h
    subst h
    obtain ⟨h0,h1⟩:=Q3i8 hg
    cases hv with
    | ptr r b off hG =>
     have hrep : RepA C N w (.pointer (some ⟨b,off + i.toNat * sz,none⟩)) (.ptr r0 (off + i.toNat * sz)):=.ptr r0 b _ hG
     refine ⟨_, ?_,hrep,rfl⟩
     unfold Instr.indexAt
     simp [Sem.run_bind,Qb76,run_underlying ht,Qvtr hi,hn,h0,h1,Qimv,Instr.sureAddr]
   ·cases h
  ·cases h
 ·rename_i cs off
  split at h
  ·rename_i n e ht
   split at h
   ·rename_i gg sz hs
    obtain ⟨d,ti,hd,hi,_,hn⟩:=Qckr hs
    simp only [Option.some.injEq] at h
    subst h
    obtain ⟨h0,h1⟩:=Q3i8 hg
    cases hv with
    | rop cs b o off f hro hc hr =>
     have hrep : RepA C N w (.pointer (some ⟨b,o + (off + i.toNat * sz),none⟩)) (.rop cs (off + i.toNat * sz)):=.rop cs b o (off + i.toNat * sz) f hro hc hr
     rw [← Nat.add_assoc] at hrep
     refine ⟨_, ?_,hrep,rfl⟩
     unfold Instr.indexAt
     simp [Sem.run_bind,Qb76,run_underlying ht,Qvtr hi,hn,h0,h1,Qimv,Instr.sureAddr]
   ·cases h
  ·cases h
 ·cases h

/-! literals -/
theorem Qjjs (off : Nat) (l : List Value) (cs : Array Value) (h : off + l.length ≤ cs.size) :
  (l.toArray.zipIdx.foldl (fun cs (x : Value × Nat)=>cs.setIfInBounds (off + x.2) x.1) cs).toList = Qltv cs.toList off l:=by
 have hz : l.toArray.zipIdx = (l.zipIdx 0).toArray:=by simp
 rw [hz,List.foldl_toArray]
 obtain ⟨h1,h2⟩:=Great.foldl_set off l 0 cs
 apply List.ext_getElem?
 intro k
 rw [Qkjm _ _ _ _ (by simpa using h),Array.getElem?_toList,h2 k]
 simp only [Nat.add_zero,Array.getElem?_toList]
 by_cases a : k < off
 ·rw [if_neg (by omega),if_pos a]
 ·rw [if_neg a]
  by_cases b : k < off + l.length
  ·rw [if_pos ⟨by omega,b,by omega⟩,if_pos b]
  ·rw [if_neg (by omega),if_neg b]

def Qq77 (C : Cod Ty El) (N : Nm) (w : World) : List (Nat × Value) → List (Nat × AV Ty El) → Prop
 | [],[]=>True
 | (i,v) :: ps,(j,x) :: qs=>i = j ∧ RepA C N w v x ∧ Qq77 C N w ps qs
 | _,_=>False

theorem Qm2h {N : Nm} {w : World} (hν : ∀ r p v u,N.G r p v u → u.oneCell' = true) {place : Nat → Option (Nat × Nat)} : ∀ (ps : List (Nat × Value)) (qs : List (Nat × AV Ty El)) (cells : Array Value) (cs ds : List (AV Ty El)),
  Qq77 C N w ps qs → fillA place cs qs = some ds → cells.size = cs.length → (∀ (j : Nat) v c,cells[j]? = some v → cs[j]? = some c → RepA C N w v c) → (qs.all fun q=>(cellsOf q.2).all oneA) = true →
  ∃ r,Instr.fill place cells ps = some r ∧ r.size = ds.length ∧ ∀ (j : Nat) v c,r[j]? = some v → ds[j]? = some c → RepA C N w v c:=by
 intro ps
 induction ps with
 | nil =>
  intro qs cells cs ds hp h hs hc _
  cases qs with
  | nil=>simp only [fillA,Option.some.injEq] at h; subst h; exact ⟨cells,rfl,hs,hc⟩
  | cons q qs=>exact hp.elim
 | cons p ps ih =>
  intro qs cells cs ds hp h hs hc hone
  cases qs with
  | nil=>exact hp.elim
  | cons q qs =>
   obtain ⟨i,v⟩:=p
   obtain ⟨j,x⟩:=q
   obtain ⟨rfl,hvx,hrest⟩:=hp
   simp only [List.all_cons,Bool.and_eq_true] at hone
   simp only [fillA] at h
   split at h
   ·cases h
   ·rename_i off size hpl
    split at h
    ·rename_i hcond
     obtain ⟨h1,h2⟩:=hcond
     obtain ⟨hvs,hv1,hvr⟩:=hvx.cells hone.1 hν
     have hfs:=Qjjs off v.cells.toList cells (by simp only [Array.length_toList,hvs]; omega)
     simp only [Array.toArray_toList] at hfs
     have hvl : v.cells.toList.length = (cellsOf x).length:=by simpa using hvs
     obtain ⟨r,hr,hrs,hrc⟩:=ih qs (v.cells.zipIdx.foldl (fun cs (x : Value × Nat)=>cs.setIfInBounds (off + x.2) x.1) cells) (Qltv cs off (cellsOf x)) ds hrest h
      (by rw [← Array.length_toList,hfs,Qlai _ _ _ (by simp only [Array.length_toList,hvl]; omega),Qlai _ _ _ (by omega)]; simpa using hs)
      (fun k u c hu hcc=>by
       rw [← Array.getElem?_toList,hfs,Qkjm _ _ _ _ (by simp only [Array.length_toList,hvl]; omega)] at hu
       rw [Qkjm _ _ _ _ (by omega)] at hcc
       rw [hvl] at hu
       by_cases a : k < off
       ·rw [if_pos a] at hu hcc; exact hc k u c (by simpa using hu) hcc
       ·rw [if_neg a] at hu hcc
        by_cases b : k < off + (cellsOf x).length
        ·rw [if_pos b] at hu hcc; exact hvr _ u c hu hcc
        ·rw [if_neg b] at hu hcc; exact hc k u c (by simpa using hu) hcc) hone.2
     refine ⟨r, ?_,hrs,hrc⟩
     unfold Instr.fill
     simp only [hpl]
     rw [if_neg (by simp; omega)]
     exact hr
    ·cases h

theorem Q4lz {t : TypeId} {i : TypeInfo} {z : Value} (hi : P.info? t = some i) (hz : i.zero = some z) (w : World) : (zeroValue t).run P w = .ok z w:=by
 unfold zeroValue
 simp only [Sem.run_bind,run_typeInfo (P:=P) (w:=w) hi,Result.andThen_ok,hz,Sem.run_pure]
theorem Qupe {t : TypeId} {x : AV Ty El} (h : zeroA P t = some x) : ∃ i z,P.info? t = some i ∧ i.zero = some z ∧ x = ofVal z:=by
 unfold zeroA at h
 split at h
 ·rename_i i hi
  split at h
  ·rename_i z hz
   simp only [Option.some.injEq] at h
   exact ⟨i,z,hi,hz,h.symm⟩
  ·cases h
 ·cases h

theorem Qsqj {X : Cx} {N : Nm} {tm : Nat → AV Ty El} {hp : Nat → AObj Ty El} {a : Act} {w : World} (hS : SimN C X N tm hp a w) (hout : ∀ t,X.n ≤ t → tm t = .dead) :
  ∀ ps : List (Nat × Operand),Qq77 C N w (ps.map fun p=>(p.1,a.eval p.2)) (Qner tm ps)
 | []=>trivial
 | p :: ps=>⟨rfl,hS.evalO hout p.2,Qsqj hS hout ps⟩
end
end Lx
namespace Lx
open Go
section
variable {Ty : Type} {El : Ty → Type} {C : Cod Ty El} {P : Program}

theorem Q8yj (v : Value) : cellsOf (ofVal1 v : AV Ty El) = [ofVal1 v]:=by
 unfold ofVal1; split <;> rfl

theorem Qagm {N : Nm} {w : World} (z : Value) : z.cells.size = (cellsOf (ofVal z : AV Ty El)).length ∧ ∀ (j : Nat) v c,z.cells[j]? = some v → (cellsOf (ofVal z : AV Ty El))[j]? = some c → RepA C N w v c:=by
 have other : (∀ vs,z ≠ .agg vs) → z.cells = #[z] → (ofVal z : AV Ty El) = ofVal1 z → z.cells.size = (cellsOf (ofVal z : AV Ty El)).length ∧ ∀ (j : Nat) v c,z.cells[j]? = some v → (cellsOf (ofVal z : AV Ty El))[j]? = some c → RepA C N w v c:=by
  intro _ h1 h2
  rw [h1,h2,Q8yj]
  refine ⟨rfl,fun j v c hv hc=>?_⟩
  cases j with
  | zero=>simp at hv hc; subst hv; subst hc; exact .ofVal1 _
  | succ j=>simp at hv
 cases z with
 | agg vs =>
  refine ⟨by simp [Value.cells,ofVal,cellsOf],fun j v c hv hc=>?_⟩
  simp only [ofVal,cellsOf,List.getElem?_map,Array.getElem?_toList] at hc
  simp only [Value.cells] at hv
  rw [hv] at hc
  simp only [Option.map_some,Option.some.injEq] at hc
  subst hc
  exact .ofVal1 v
 | _=>exact other (fun vs=>by simp) rfl rfl

theorem Qnwy {X : Cx} {N : Nm} {tm : Nat → AV Ty El} {hp : Nat → AObj Ty El} {a : Act} {w : World} (hS : SimN C X N tm hp a w) (hout : ∀ t,X.n ≤ t → tm t = .dead) {t : TypeId} {ps : Array (Nat × Operand)} {z : AV Ty El} {pl : Nat → Option (Nat × Nat)} {cs : List (AV Ty El)}
  (hz : zeroA P t = some z) (hpl : Q1ic P t = some pl) (hone : ((Qner tm ps.toList).all fun q=>(cellsOf q.2).all oneA) = true) (hf : fillA pl (cellsOf z) (Qner tm ps.toList) = some cs) :
  ∃ u,(Instr.build t (ps.map fun (i,x)=>(i,a.eval x))).run P w = .ok u w ∧ RepA C N w u (.agg cs):=by
 obtain ⟨i,zv,hi,hzv,rfl⟩:=Qupe hz
 obtain ⟨z1,z2⟩:=Qagm (C:=C) (N:=N) (w:=w) zv
 have hparts:=Qsqj hS hout ps.toList
 obtain ⟨r,hr,hrs,hrc⟩:=Qm2h hS.hr.one _ _ _ _ _ hparts hf z1 z2 hone
 refine ⟨.agg r, ?_,.agg r cs hrs hrc⟩
 refine run_build (P:=P) w t _ r ?_
 have hl : (ps.map fun (i,x)=>(i,a.eval x)).toList = ps.toList.map fun p=>(p.1,a.eval p.2):=by simp
 unfold Q1ic at hpl
 unfold Program.built
 split at hpl
 ·rename_i n e hu
  split at hpl
  ·rename_i ie hie
   simp only [Option.some.injEq] at hpl
   subst hpl
   simp only [hi,hu,hzv,hie,hl]
   exact hr
  ·cases hpl
 ·rename_i fs hu
  split at hpl
  ·rename_i places hp'
   simp only [Option.some.injEq] at hpl
   subst hpl
   simp only [hi,hu,hzv,hp',hl]
   exact hr
  ·cases hpl
 ·cases hpl

theorem Q8mr {t : TypeId} {T : Ty} (h : elTy P C t = some T) : ∃ e,P.underlying t = some (.slice e) ∧ C.ty e = some T:=by
 unfold elTy Qtpu at h
 split at h
 ·rename_i e he
  split at he
  ·rename_i e' hu
   simp only [Option.some.injEq] at he
   subst he
   exact ⟨e',hu,h⟩
  ·cases he
 ·cases h

def GoodK (C : Cod Ty El) (N : Nm) (w : World) (D i j : Nat) (u : Value) (c : AV Ty El) (F : Nat → Prop) : Prop:=(D = 0 → flatK C N w u c F) ∧ ∀ D',D = D' + 1 → deepK C N w (Deep C N w D') mskNo i j u c F

theorem GoodK.row (hC : CodOK P C) {N : Nm} {w : World} {D : Nat} {B : Nat → Prop} {v : Value} {S : Ty} {ys : List (El S)} {e : TypeId} {cells : List Value} {Fs : Nat → Nat → Nat → Prop} (h : RowI C w (fun i j u c F=>GoodK C N w D i j u c F) B v S ys e cells Fs) : Deep C N w D mskNo B v S ys:=by
 cases D with
 | zero=>exact ⟨e,cells,Fs,h.ty,h.own,h.one,h.blk,h.sep0,h.sep,fun i j c hi hc=>by obtain ⟨u,hu,hk⟩:=h.cell i j c hi hc; exact ⟨u,hu,hk.1 rfl⟩⟩
 | succ D=>exact ⟨e,cells,Fs,h.ty,h.own,h.one,h.blk,h.sep0,h.sep,fun i j c hi hc=>by obtain ⟨u,hu,hk⟩:=h.cell i j c hi hc; exact ⟨u,hu,hk.2 D rfl⟩⟩
theorem GoodK.of_row {N : Nm} {w : World} {D : Nat} {B : Nat → Prop} {v : Value} {S : Ty} {ys : List (El S)} (h : Deep C N w D mskNo B v S ys) : ∃ e cells Fs,RowI C w (fun i j u c F=>GoodK C N w D i j u c F) B v S ys e cells Fs:=by
 cases D with
 | zero =>
  obtain ⟨e,cells,Fs,h⟩:=h
  exact ⟨e,cells,Fs,h.ty,h.own,h.one,h.blk,h.sep0,h.sep,fun i j c hi hc=>by obtain ⟨u,hu,hk⟩:=h.cell i j c hi hc; exact ⟨u,hu,fun _=>hk,fun D' h=>by omega⟩⟩
 | succ D =>
  obtain ⟨e,cells,Fs,h⟩:=h
  exact ⟨e,cells,Fs,h.ty,h.own,h.one,h.blk,h.sep0,h.sep,fun i j c hi hc=>by obtain ⟨u,hu,hk⟩:=h.cell i j c hi hc; exact ⟨u,hu,fun h=>(by omega),fun D' h=>(by have e : D' = D:=(by omega); subst e; exact hk)⟩⟩
theorem GoodK.mono (hC : CodOK P C) {N N' : Nm} {w w' : World} (hL : Le N N' w w') {D i j : Nat} {u : Value} {c : AV Ty El} {F : Nat → Prop} (h : GoodK C N w D i j u c F) (hw : ∀ b,F b → w'.heap[b]? = w.heap[b]?) : GoodK C N' w' D i j u c F :=
 ⟨fun h0=>(h.1 h0).mono hL,fun D' h0=>deepK.mono hC hL (h.2 D' h0) hw⟩
theorem GoodK.of_rep {N : Nm} {w : World} {D i j : Nat} {u : Value} {c : AV Ty El} (h : RepA C N w u c) (hd : ∀ U zs,c = .sl U zs → D = 0) : GoodK C N w D i j u c (fun _=>False):=by
 refine ⟨fun _=>⟨h,fun _ h=>h⟩,fun D' h0=>?_⟩
 cases c with
 | sl U zs=>have:=hd U zs rfl; omega
 | _=>exact ⟨h,fun _ h=>h⟩

theorem Qc8l (hC : CodOK P C) {X : Cx} {tm : Nat → AV Ty El} {hp0 : Nat → AObj Ty El} {a : Act} {w : World} {fresh D : Nat} {T : Ty} (hD : D ≤ C.hgt T) (hgone : hp0 fresh = .gone) : ∀ (qs : List (Nat × AV Ty El)) (ps : List (Nat × Value)) (k : Nat) (N : Nm) (hp : Nat → AObj Ty El) (xs : List (El T)) (inn : List Nat) (dm : Nat),
  SimN C X N tm hp a w → hp fresh = .gone → Qq77 C N w ps qs → Q6uz C hp0 fresh T qs k = some (xs,inn,dm) → D ≤ dm → inn.Nodup → (∀ k ∈ inn,hp k = hp0 k) →
  ∃ (N1 : Nm) (hp1 : Nat → AObj Ty El) (vs : List Value) (subs : Nat → Nat → List Nat),Prep C X tm a w fresh inn N N1 hp hp1 ∧ ps = (vs.zipIdx k).map (fun x=>(x.2,x.1)) ∧ vs.length = xs.length ∧
   (∀ i j i' j' r',r' ∈ subs i j → r' ∈ subs i' j' → i = i' ∧ j = j') ∧ (∀ i j r',r' ∈ subs i j → r' ∈ inn) ∧
   ∀ (i : Nat) v,vs[i]? = some v → v.cells.size = C.sz T ∧ ∀ (j : Nat) c,(C.row T (xs.getD i (C.dflt T)))[j]? = some c → ∃ u F,v.cells[j]? = some u ∧ u.oneCell' = true ∧ GoodK C N1 w D i j u c F ∧ ∀ b,F b → ∃ k' ∈ subs i j,N1.F k' b:=by
 intro qs
 induction qs with
 | nil =>
  intro ps k N hp xs inn dm hS hg hps h hDd hnd hsame
  simp only [Q6uz,Option.some.injEq,Prod.mk.injEq] at h
  obtain ⟨rfl,rfl,_⟩:=h
  cases ps with
  | nil=>exact ⟨N,hp,[],fun _ _=>[],⟨hS,Le.rfl',fun _=>rfl,fun _ _ h=>h,fun k _=>⟨⟨rfl,fun _=>Iff.rfl,fun _ _ _=>Iff.rfl⟩,rfl⟩,fun k _ h=>h,fun k hk=>by simp at hk⟩,rfl,rfl,fun _ _ _ _ _ h=>by simp at h,fun _ _ _ h=>by simp at h,fun i v h=>by simp at h⟩
  | cons p ps=>exact hps.elim
 | cons q qs ih =>
  intro ps k N hp xs inn dm hS hg hps h hDd hnd hsame
  obtain ⟨i,x⟩:=q
  cases ps with
  | nil=>exact hps.elim
  | cons pv ps =>
   obtain ⟨i',v⟩:=pv
   obtain ⟨rfl,hv,hrest⟩:=hps
   simp only [Q6uz] at h
   split at h
   case isFalse=>cases h
   rename_i hik
   subst hik
   split at h
   case h_2=>cases h
   rename_i cs g inn1 dm1 hst
   split at h
   case h_2=>cases h
   split at h
   case h_2=>cases h
   rename_i y hy
   split at h
   case h_2=>cases h
   rename_i xs' inn2 dm2 hel
   simp only [Option.some.injEq,Prod.mk.injEq] at h
   obtain ⟨rfl,rfl,rfl⟩:=h
   rw [List.nodup_append] at hnd
   obtain ⟨hn1,hn2,hn3⟩:=hnd
   obtain ⟨hone,_⟩:=Qwcg _ _ _ _ _ _ _ hst
   obtain ⟨hvs,hv1,hvr⟩:=hv.cells hone hS.hr.one
   obtain ⟨N1,hp1,hP1,hcl,_,subs1,hs1,hs2,hs3⟩:=Qjgt hC hD _ _ v.cells.toList 0 N hp cs true inn1 dm1 hS hst rfl (by omega) hn1 (fun k hk=>hsame k (List.mem_append_left _ hk)) (by simpa using hvs) hvr (fun c hc=>hC.cell _ _ c hc)
   have hfr : fresh ∉ inn1:=fun hf=>(hP1.ne fresh hf).1 rfl
   have hdis : ∀ k,k ∈ inn2 → k ∉ inn1:=fun k hk hk'=>hn3 k hk' k hk rfl
   have hrest' : Qq77 C N1 w ps qs:=by
    have : ∀ (ps : List (Nat × Value)) (qs : List (Nat × AV Ty El)),Qq77 C N w ps qs → Qq77 C N1 w ps qs:=by
     intro ps
     induction ps with
     | nil=>intro qs h; cases qs with | nil=>trivial | cons q qs=>exact h
     | cons p ps ihp=>intro qs h; cases qs with | nil=>exact h | cons q qs=>exact ⟨h.1,h.2.1.mono hP1.le,ihp qs h.2.2⟩
    exact this ps qs hrest
   obtain ⟨N2,hp2,vs,subs2,hP2,hps2,hlen2,ht1,ht2,ht3⟩:=ih ps (i' + 1) N1 hp1 xs' inn2 dm2 hP1.sim ((hP1.out fresh hfr).2.trans hg) hrest' hel (by omega) hn2 (fun k hk=>((hP1.out k (hdis k hk)).2).trans (hsame k (List.mem_append_right _ hk)))
   have hyrow:=hC.unrow _ _ _ hy
   refine ⟨N2,hp2,v :: vs,fun i j=>match i with | 0=>subs1 j | i + 1=>subs2 i j,⟨hP2.sim,⟨fun r p v u h=>hP2.le.G _ _ _ _ (hP1.le.G _ _ _ _ h),fun b hb=>hP2.le.ro b (hP1.le.ro b hb),fun _ _=>rfl⟩,fun k=>(hP2.ν k).trans (hP1.ν k),fun k b hb=>hP1.F k b (hP2.F k b hb),fun k hk=>?_,fun k hk hst=>?_,fun k hk=>?_⟩,
    by simp [hps2,List.zipIdx_cons],by simp [hlen2],fun i j i2 j2 r' h1 h2=>?_,fun i j r' hr=>?_,fun n u hu=>?_⟩
   ·rw [List.mem_append,not_or] at hk
    obtain ⟨e1,e2⟩:=hP1.out k hk.1
    obtain ⟨e3,e4⟩:=hP2.out k hk.2
    exact ⟨⟨e3.ν.trans e1.ν,fun b=>(e3.F b).trans (e1.F b),fun p v u=>(e3.G p v u).trans (e1.G p v u)⟩,e4.trans e2⟩
   ·by_cases hk' : k ∈ inn2
    ·have h11:=hP2.st k hk' hst
     have e:=(hP1.out k (hdis k hk')).2
     simpa [stays,e] using h11
    ·have hk1 : k ∈ inn1:=(List.mem_append.1 hk).resolve_right hk'
     have e4:=(hP2.out k hk').2
     refine hP1.st k hk1 ?_
     simpa [stays,e4] using hst
   ·by_cases hk' : k ∈ inn2
    ·exact hP2.ne k hk'
    ·have hk1 : k ∈ inn1:=(List.mem_append.1 hk).resolve_right hk'
     exact ⟨(hP1.ne k hk1).1,by rw [(hP2.out k hk').2]; exact (hP1.ne k hk1).2⟩
   ·cases i with
    | zero=>cases i2 with
     | zero=>exact ⟨rfl,hs1 j j2 r' h1 h2⟩
     | succ i2=>exact absurd (hs2 j r' h1) (hdis r' (ht2 i2 j2 r' h2))
    | succ i=>cases i2 with
     | zero=>exact absurd (hs2 j2 r' h2) (hdis r' (ht2 i j r' h1))
     | succ i2=>obtain ⟨e1,e2⟩:=ht1 i j i2 j2 r' h1 h2; exact ⟨by rw [e1],e2⟩
   ·cases i with
    | zero=>exact List.mem_append_left _ (hs2 j r' hr)
    | succ i=>exact List.mem_append_right _ (ht2 i j r' hr)
   ·cases n with
    | zero =>
     simp only [List.getElem?_cons_zero,Option.some.injEq] at hu
     subst hu
     have hrl : cs.length = C.sz T:=by rw [← hyrow,hC.len]
     refine ⟨by rw [hvs,← hcl,hrl],fun j c hc=>?_⟩
     simp only [List.getD_cons_zero] at hc
     rw [hyrow] at hc
     have hlt : j < v.cells.size:=by rw [hvs,← hcl]; exact (List.getElem?_eq_some_iff.1 hc).1
     have hu : v.cells.toList[j]? = some v.cells[j]:=by simp [hlt]
     obtain ⟨_,hk⟩:=hs3 j _ c hu hc
     rcases hk with ⟨o,_,_,_,hk2⟩ | ⟨F,hk,hF⟩
     ·have:=hS.hr.reg fresh _ _ _ hk2
      rw [hg] at this
      exact this.elim
     ·have hsm : ∀ k,k ∈ subs1 j → SameN N1 N2 k:=fun k hk=>(hP2.out k (fun hk'=>hdis k hk' (hs2 j k hk))).1
      have hgk:=CellG.k hC (hk.mono hC hP2.le (fun _ h=>h) hsm (fun _ _ _ _=>rfl))
      refine ⟨v.cells[j],F,by simp [hlt],hv1 _ (List.mem_of_getElem? hu),⟨hgk.1,fun D' hD'=>hgk.2 D' 0 j hD'⟩,fun b hb=>?_⟩
      obtain ⟨k',hk',hb'⟩:=hF b hb
      exact ⟨k',hk',((hsm k' hk').F b).2 hb'⟩
    | succ n =>
     simp only [List.getElem?_cons_succ] at hu
     obtain ⟨g1,g2⟩:=ht3 n u hu
     refine ⟨g1,fun j c hc=>?_⟩
     obtain ⟨u',F,h1,h2,h3,h4⟩:=g2 j c (by simpa using hc)
     refine ⟨u',F,h1,h2,⟨h3.1,fun D' hD'=>?_⟩,h4⟩
     have:=h3.2 D' hD'
     cases c with
     | sl U zs=>exact this.imp (fun h=>h.1.elim) (fun h=>⟨fun h=>h,h.2⟩)
     | _=>exact this
end
end Lx
namespace Lx
open Go
section
variable {Ty : Type} {El : Ty → Type} {C : Cod Ty El} {P : Program}

theorem Q4c9 {hp : Nat → AObj Ty El} {r : Nat} {o : AObj Ty El} {inn : List Nat} : outs hp r o inn r = o:=by simp [outs]

theorem Qrot {X : Cx} {tm : Nat → AV Ty El} {a : Act} {w : World} {r : Nat} {inn : List Nat} {N N1 : Nm} {hp hp1 : Nat → AObj Ty El} {o : AObj Ty El} (hP : Prep C X tm a w r inn N N1 hp hp1) : outs hp1 r o inn = outs hp r o inn:=by
 funext k
 unfold outs
 by_cases e1 : k = r
 ·simp [e1]
 ·by_cases e2 : k ∈ inn
  ·simp [e1,e2]
  ·simp only [e1,e2,if_false]
   exact (hP.out k e2).2

theorem Qbwz (hC : CodOK P C) {X : Cx} {N : Nm} {tm : Nat → AV Ty El} {hp : Nat → AObj Ty El} {a : Act} {w : World} {r : Nat} (h : SimN C X N tm hp a w) (hg : hp r = .gone) {e : TypeId} {T : Ty} (he : C.ty e = some T)
  (xs : List (El T)) (cells : Array Value) (hl : cells.size = xs.length * C.sz T) (hmax : xs.length ≤ maxLen) (D vn : Nat) {inn : List Nat} (hin : ∀ k ∈ inn,k ≠ r ∧ hp k ≠ .gone)
  (subs : Nat → Nat → List Nat) (hs1 : ∀ i j i' j' r',r' ∈ subs i j → r' ∈ subs i' j' → i = i' ∧ j = j')
  (hs2 : ∀ i j c,i < xs.length → (C.row T (xs.getD i (C.dflt T)))[j]? = some c → ∃ u F,cells[i * C.sz T + j]? = some u ∧ u.oneCell' = true ∧ GoodK C N w D i j u c F ∧ ∀ b,F b → ∃ k' ∈ subs i j,k' ∈ inn ∧ N.F k' b) :
  ∃ N',SimN C X N' tm (outs hp r (.row T xs D 0 vn .no) inn) a (w.alloc (.cells cells e)) ∧ RepA C N' (w.alloc (.cells cells e)) (.slice (some ⟨w.heap.size,0,none⟩) xs.length xs.length) (.own r [] 0):=by
 have ex : ∀ i j,∃ F : Nat → Prop,(∀ b,F b → ∃ k' ∈ subs i j,k' ∈ inn ∧ N.F k' b) ∧ ∀ c,i < xs.length → (C.row T (xs.getD i (C.dflt T)))[j]? = some c → ∃ u,cells[i * C.sz T + j]? = some u ∧ u.oneCell' = true ∧ GoodK C N w D i j u c F:=by
  intro i j
  by_cases hh : ∃ c,i < xs.length ∧ (C.row T (xs.getD i (C.dflt T)))[j]? = some c
  ·obtain ⟨c,hi,hc'⟩:=hh
   obtain ⟨u,F,h1,h2,h3,h4⟩:=hs2 i j c hi hc'
   refine ⟨F,h4,fun c' _ hc2=>?_⟩
   rw [hc'] at hc2
   obtain rfl:=Option.some.inj hc2
   exact ⟨u,h1,h2,h3⟩
  ·exact ⟨fun _=>False,fun b h=>h.elim,fun c hi hc'=>absurd ⟨c,hi,hc'⟩ hh⟩
 let G : Nat → Nat → Nat → Prop:=fun i j=>Classical.choose (ex i j)
 have hG1 : ∀ i j b,G i j b → ∃ k' ∈ subs i j,k' ∈ inn ∧ N.F k' b:=fun i j=>(Classical.choose_spec (ex i j)).1
 have hG2 : ∀ i j c,i < xs.length → (C.row T (xs.getD i (C.dflt T)))[j]? = some c → ∃ u,cells[i * C.sz T + j]? = some u ∧ u.oneCell' = true ∧ GoodK C N w D i j u c (G i j):=fun i j=>(Classical.choose_spec (ex i j)).2
 have hGlt : ∀ i j b,G i j b → b < w.heap.size:=fun i j b hb=>by obtain ⟨k',_,_,h1⟩:=hG1 i j b hb; exact (h.hr.obj k').lt hC h1
 have hone : ∀ v ∈ cells.toList,v.oneCell' = true:=by
  intro v hv
  obtain ⟨k,hk,hkv⟩:=List.getElem_of_mem hv
  have hk' : k < xs.length * C.sz T:=by rw [← hl]; simpa using hk
  have hpos:=hC.pos T
  have hi : k / C.sz T < xs.length:=Nat.div_lt_of_lt_mul (by rw [Nat.mul_comm]; exact hk')
  have hj : k % C.sz T < (C.row T (xs.getD (k / C.sz T) (C.dflt T))).length:=by rw [hC.len]; exact Nat.mod_lt _ hpos
  obtain ⟨u,hu,h1,_⟩:=hG2 (k / C.sz T) (k % C.sz T) _ hi (List.getElem?_eq_getElem hj)
  rw [Nat.mul_comm,Nat.div_add_mod] at hu
  have : cells[k]? = some v:=by rw [Array.getElem?_eq_getElem (by simpa using hk)]; simp only [Array.getElem_toList] at hkv; rw [hkv]
  rw [this] at hu; simp at hu; subst hu
  exact h1
 have hs:=Step.rowIn (r:=r) (T:=T) (xs:=xs) (d:=D) (vr:=0) (vn:=vn) (m:=.no) (ν:=.slice (some ⟨w.heap.size,0,none⟩) xs.length xs.length)
  (F:=fun b=>b = w.heap.size ∨ ∃ i j,i < xs.length ∧ j < C.sz T ∧ G i j b) (ro:=fun _=>False) (inn:=inn) (w':=w.alloc (.cells cells e)) hC h.hr hin (fun b hb _=>Qn4u w _ hb) (by rw [Q541]; omega) rfl
  (fun hL=>by
   refine GoodK.row hC (e:=e) (cells:=cells.toList) (Fs:=G) ⟨he,⟨by simpa using hl,.inr ⟨w.heap.size,xs.length,cells,rfl,Nat.zero_le _,Qdnr w _,Nat.le_refl _,hmax,hl,by rw [List.take_of_length_le]; simp [hl]⟩⟩,hone,fun b=>?_,fun i j b hi hj hb=>?_,fun i j i' j' b _ _ _ _ hb hb'=>?_,fun i j c hi hj=>?_⟩
   ·simp only [Value.ownBlock,Option.some.injEq]
    exact ⟨fun h=>h.imp Eq.symm id,fun h=>h.imp Eq.symm id⟩
   ·simp only [Value.ownBlock,ne_eq,Option.some.injEq]
    have:=hGlt i j b hb
    omega
   ·obtain ⟨k1,h1,_,h2⟩:=hG1 i j b hb
    obtain ⟨k2,h3,_,h4⟩:=hG1 i' j' b hb'
    have:=h.hr.dist k1 k2 b h2 h4
    subst this
    exact hs1 i j i' j' k1 h1 h3
   ·obtain ⟨u,hu,_,hk⟩:=hG2 i j c hi hj
    exact ⟨u,by simpa using hu,hk.mono hC hL (fun b hb=>Qn4u w _ (hGlt i j b hb))⟩)
  (fun p v' u hg'=>by have:=h.hr.reg r p v' u hg'; rw [hg] at this; exact this.elim)
  (fun b hb=>by
   rcases hb with rfl | ⟨i,j,_,_,hb⟩
   ·exact .inr (.inl (Nat.le_refl _))
   ·obtain ⟨k',_,h1,h2⟩:=hG1 i j b hb
    exact .inr (.inr ⟨k',h1,h2⟩))
  (fun b hb=>hb.elim) (fun b _ hb=>hb) rfl rfl rfl
 refine ⟨_,h.step hC hs (fun k hk hkm hst=>?_),.own r [] 0 _ (.inr ⟨rfl,.inl ⟨rfl,rfl,rfl⟩⟩)⟩
 rcases hk with hk | hk
 ·exact absurd (by subst hk; exact hg) (h.nog k hkm)
 ·simp [stays,outs,(hin k hk).1,hk] at hst

theorem Qt1x (hC : CodOK P C) {t : TypeId} {n : Nat} {T : Ty} {e : TypeId} (hte : P.underlying t = some (.slice e)) (hce : C.ty e = some T) (hmax : n * (C.row T (C.dflt T)).length ≤ 16777216) {vs : List Value} (hvn : vs.length = n) (hvc : ∀ v ∈ vs,v.cells.size = C.sz T)
  {ps : Array (Nat × Value)} (hps : ps.toList = (vs.zipIdx 0).map (fun x=>(x.2,x.1))) (w : World) :
  ∃ cells : Array Value,(Instr.buildSlice t n ps).run P w = .ok (.slice (some ⟨w.heap.size,0,none⟩) n n) (w.alloc (.cells cells e)) ∧ cells.size = n * C.sz T ∧ ∀ (k j : Nat) v u,vs[k]? = some v → j < C.sz T → v.cells[j]? = some u → cells[k * C.sz T + j]? = some u:=by
 obtain ⟨i,z,hi,hsz,hz,hzs,_⟩:=hC.info e T hce
 have hpos:=hC.pos T
 let cells0 : Array Value:=(Array.range (n * C.sz T)).map (z.cells[· % z.cells.size]!)
 have hc0 : cells0.size = n * C.sz T:=by simp [cells0]
 obtain ⟨r,hr,hrs,hrk⟩:=Great.fill_dense hpos vs 0 cells0 hvc (by simp [hvn,hc0])
 refine ⟨r, ?_,by rw [hrs,hc0],fun k j v u hk hj hu=>?_⟩
 ·have hle : ¬ n * C.sz T > 2 ^ 24:=by
   have : n * C.sz T ≤ 16777216:=hmax
   omega
  unfold Instr.buildSlice
  by_cases h0 : n * C.sz T = 0
  ·have hcc : (Array.range (n * C.sz T)).map ((#[] : Array Value)[· % (#[] : Array Value).size]!) = cells0:=by simp [cells0,h0]
   rw [h0] at hcc
   simp only [Sem.run_bind,run_underlying hte,Result.andThen_ok,Qvtr hi,hsz,h0,if_true,Sem.run_pure,hcc,hps]
   rw [if_neg (by omega)]
   simp only [Sem.run_bind,Sem.run_pure,Result.andThen_ok,hcc,hr,Qr4z]
  ·simp only [Sem.run_bind,run_underlying hte,Result.andThen_ok,Qvtr hi,hsz,if_neg h0,if_neg hle,Q4lz hi hz,Sem.run_pure,hps]
   show (Sem.run P (match Instr.fill (fun i=>some (i * C.sz T,C.sz T)) cells0 (List.map (fun x=>(x.snd,x.fst)) vs.zipIdx) with | some cells=>_ | x=>_) w) = _
   rw [hr]
   simp only [Sem.run_bind,Qr4z,Result.andThen_ok,Sem.run_pure]
 ·rw [hrk]
  have hkl : k < vs.length:=(List.getElem?_eq_some_iff.1 hk).1
  have hlt : k * C.sz T + j < (0 + vs.length) * C.sz T:=by rw [Nat.zero_add]; exact Qz8b hkl hj
  rw [if_pos ⟨by simp,hlt⟩]
  have hd : (k * C.sz T + j) / C.sz T = k:=by
   rw [Nat.add_comm,Nat.add_mul_div_right _ _ hpos,Nat.div_eq_of_lt hj,Nat.zero_add]
  have hm : (k * C.sz T + j) % C.sz T = j:=by
   rw [Nat.add_comm,Nat.add_mul_mod_self_right,Nat.mod_eq_of_lt hj]
  rw [hd,hm,Nat.sub_zero,hk]
  exact hu

theorem Qy7q {hp : Nat → AObj Ty El} {fresh : Nat} {T : Ty} : ∀ (qs : List (Nat × AV Ty El)) (k : Nat) (xs : List (El T)) (inn : List Nat) (dm : Nat),Q6uz C hp fresh T qs k = some (xs,inn,dm) → dm ≤ C.hgt T
 | [],k,xs,inn,dm,h=>by simp only [Q6uz,Option.some.injEq,Prod.mk.injEq] at h; omega
 | (i,x) :: qs,k,xs,inn,dm,h=>by
  simp only [Q6uz] at h
  split at h
  case isFalse=>cases h
  split at h
  case h_2=>cases h
  split at h
  case h_2=>cases h
  split at h
  case h_2=>cases h
  split at h
  case h_2=>cases h
  rename_i hel
  simp only [Option.some.injEq,Prod.mk.injEq] at h
  have:=Qy7q _ _ _ _ _ hel
  omega

theorem Qk4i (hC : CodOK P C) {X : Cx} {N : Nm} {tm : Nat → AV Ty El} {hp : Nat → AObj Ty El} {a : Act} {w : World} (hS : SimN C X N tm hp a w) (hout : ∀ t,X.n ≤ t → tm t = .dead) {t : TypeId} {n : Nat} {ps : Array (Nat × Operand)} {T : Ty} {xs : List (El T)} {fresh : Nat} {inn : List Nat} {dm : Nat}
  (hT : elTy P C t = some T) (hn : ps.toList.length = n) (hmax : n * (C.row T (C.dflt T)).length ≤ 16777216) (he : Q6uz C hp fresh T (Qner tm ps.toList) 0 = some (xs,inn,dm)) (hg : hp fresh = .gone) (hnd : inn.Nodup) :
  ∃ u N' w',(Instr.buildSlice t n (ps.map fun (i,x)=>(i,a.eval x))).run P w = .ok u w' ∧ SimN C X N' tm (updH hp ((fresh,.row T xs dm 0 1 .no) :: inn.map fun k=>(k,.out))) a w' ∧ RepA C N' w' u (.own fresh [] 0):=by
 obtain ⟨e,hte,hce⟩:=Q8mr hT
 have hdm:=Qy7q _ _ _ _ _ he
 obtain ⟨N1,hp1,vs,subs,hP,hps,hlen,hs1,hs2,hall⟩:=Qc8l hC hdm hg _ _ 0 N hp xs inn dm hS hg (Qsqj hS hout ps.toList) he (Nat.le_refl _) hnd (fun _ _=>rfl)
 have hn' : ps.size = n:=by simpa using hn
 have hvn : vs.length = n:=by
  have:=congrArg List.length hps
  simp at this
  omega
 have hl : (ps.map fun (i,x)=>(i,a.eval x)).toList = (vs.zipIdx 0).map (fun x=>(x.2,x.1)):=by rw [← hps]; simp
 obtain ⟨cells,hrun,hcs,hcell⟩:=Qt1x hC hte hce hmax hvn (fun v hv=>by
  obtain ⟨k,hk,hkv⟩:=List.getElem_of_mem hv
  exact (hall k v (by rw [List.getElem?_eq_getElem hk,hkv])).1) hl w
 have hfr : fresh ∉ inn:=fun hf=>(hP.ne fresh hf).1 rfl
 have hg1 : hp1 fresh = .gone:=(hP.out fresh hfr).2.trans hg
 have hxn : xs.length = n:=by omega
 have hcc : ∀ i j c,i < xs.length → (C.row T (xs.getD i (C.dflt T)))[j]? = some c → ∃ u F,cells[i * C.sz T + j]? = some u ∧ u.oneCell' = true ∧ GoodK C N1 w dm i j u c F ∧ ∀ b,F b → ∃ k' ∈ subs i j,k' ∈ inn ∧ N1.F k' b:=by
  intro i j c hi hj
  have hkl : i < vs.length:=by omega
  obtain ⟨g1,g2⟩:=hall i vs[i] (List.getElem?_eq_getElem hkl)
  obtain ⟨u,F,h1,h2,h3,h4⟩:=g2 j c hj
  refine ⟨u,F,hcell i j _ u (List.getElem?_eq_getElem hkl) (RowI.sz hC hj) h1,h2,h3,fun b hb=>?_⟩
  obtain ⟨k',hk',hb'⟩:=h4 b hb
  exact ⟨k',hk',hs2 _ _ _ hk',hb'⟩
 obtain ⟨N',h1,h2⟩:=Qbwz hC hP.sim hg1 hce xs cells (by rw [hcs,hxn]) (by
   have hpos:=hC.pos T
   have : xs.length ≤ n * C.sz T:=by rw [hxn]; exact Nat.le_mul_of_pos_right _ hpos
   have : n * C.sz T ≤ 16777216:=hmax
   simp only [maxLen]; omega) dm 1 (fun k hk=>⟨(hP.ne k hk).1,(hP.ne k hk).2⟩) subs hs1 hcc
 rw [Qrot hP] at h1
 rw [hxn] at h2
 exact ⟨_,N',_,hrun,by rw [Q2dv hfr]; exact h1,h2⟩

theorem Q3te (hC : CodOK P C) {X : Cx} {N : Nm} {tm : Nat → AV Ty El} {hp : Nat → AObj Ty El} {a : Act} {w : World} (hS : SimN C X N tm hp a w) (hout : ∀ t,X.n ≤ t → tm t = .dead) {t : TypeId} {n : Nat} {ps : Array (Nat × Operand)} {T : Ty} {xs : List (El T)} {fresh : Nat} {inn : List Nat} {dm : Nat}
  (hT : elTy P C t = some T) (hn : ps.toList.length = n) (hmax : n * (C.row T (C.dflt T)).length ≤ 16777216) (he : Q6uz C hp fresh T (Qner tm ps.toList) 0 = some (xs,inn,dm)) (hg : hp fresh = .gone) (hnd : inn.Nodup) :
  ∃ u N' w',(Instr.buildSlice t n (ps.map fun (i,x)=>(i,a.eval x))).run P w = .ok u w' ∧ SimN C X N' tm (updH hp ((fresh,.out) :: inn.map fun k=>(k,.out))) a w' ∧ RepA C N' w' u (.sl T xs):=by
 obtain ⟨u,N1,w',h1,h2,h3⟩:=Qk4i hC hS hout hT hn hmax he hg hnd
 have hfr : fresh ∉ inn:=fun hf=>by
  obtain ⟨N1,hp1,vs,subs,hP,_⟩:=Qc8l hC (Qy7q _ _ _ _ _ he) hg _ _ 0 N hp xs inn dm hS hg (Qsqj hS hout ps.toList) he (Nat.le_refl _) hnd (fun _ _=>rfl)
  exact (hP.ne fresh hf).1 rfl
 rw [Q2dv hfr] at h2
 have hrow : outs hp fresh (.row T xs dm 0 1 .no) inn fresh = .row T xs dm 0 1 .no:=Q4c9
 obtain ⟨N2,h4,h5,h6,_,_,h7⟩:=h2.dissolve hC hrow
 have hu : u = N1.ν fresh:=by
  cases h3 with
  | own _ _ _ _ hG =>
   have:=h2.hr.reg fresh [] 0 u hG
   rw [hrow] at this
   exact this.2 rfl
 refine ⟨u,N2,w',h1, ?_,by rw [hu]; exact h7⟩
 have e : updH hp ((fresh,.out) :: inn.map fun k=>(k,.out)) = setH (outs hp fresh (.row T xs dm 0 1 .no) inn) fresh .out:=by
  rw [Q2dv hfr]
  funext k
  by_cases e : k = fresh
  ·simp [outs,setH,e]
  ·simp [outs,setH,e]
 rw [e]; exact h4
end
end Lx
